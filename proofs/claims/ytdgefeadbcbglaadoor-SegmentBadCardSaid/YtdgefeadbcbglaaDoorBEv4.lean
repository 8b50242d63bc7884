/- AN EVALUATOR OF THE MODEL OF Go, PROVED SOUND, PART 4: what it says of a call holds in every world, on every tape. Conditions: none of its own; each theorem bears its premises. -/
import Derived.Test.YtdgefeadbcbglaaDoorBEv3
import Derived.Maps.RangeRun
import Derived.RangeFuncIn
import Derived.RangeFuncRecord
import Derived.TacticsIn
noncomputable section
set_option linter.unusedSimpArgs false
set_option linter.unusedVariables false
namespace Go.Ev
set_option linter.unusedVariables false
/-- Two kinds that are one: its modulus. -/
def kM0 (j:IntKind) (κ:Nat->R):R := @IntKind.rec (fun _ => R) (κ 256) (.fail "") (.fail "") (.fail "") (.fail "") (.fail "") (.fail "") (.fail "") j
def kM1 (j:IntKind) (κ:Nat->R):R := @IntKind.rec (fun _ => R) (.fail "") (κ 65536) (.fail "") (.fail "") (.fail "") (.fail "") (.fail "") (.fail "") j
def kM2 (j:IntKind) (κ:Nat->R):R := @IntKind.rec (fun _ => R) (.fail "") (.fail "") (κ 4294967296) (.fail "") (.fail "") (.fail "") (.fail "") (.fail "") j
def kM3 (j:IntKind) (κ:Nat->R):R := @IntKind.rec (fun _ => R) (.fail "") (.fail "") (.fail "") (κ 18446744073709551616) (.fail "") (.fail "") (.fail "") (.fail "") j
def kM4 (j:IntKind) (κ:Nat->R):R := @IntKind.rec (fun _ => R) (.fail "") (.fail "") (.fail "") (.fail "") (κ 256) (.fail "") (.fail "") (.fail "") j
def kM5 (j:IntKind) (κ:Nat->R):R := @IntKind.rec (fun _ => R) (.fail "") (.fail "") (.fail "") (.fail "") (.fail "") (κ 65536) (.fail "") (.fail "") j
def kM6 (j:IntKind) (κ:Nat->R):R := @IntKind.rec (fun _ => R) (.fail "") (.fail "") (.fail "") (.fail "") (.fail "") (.fail "") (κ 4294967296) (.fail "") j
def kM7 (j:IntKind) (κ:Nat->R):R := @IntKind.rec (fun _ => R) (.fail "") (.fail "") (.fail "") (.fail "") (.fail "") (.fail "") (.fail "") (κ 18446744073709551616) j
def kM (k:IntKind):IntKind->(Nat->R)->R := @IntKind.rec (fun _ => IntKind->(Nat->R)->R) kM0 kM1 kM2 kM3 kM4 kM5 kM6 kM7 k
theorem Q5 (k j:IntKind) (κ:Nat->R):kM k j κ=br (AZ k j) (κ (Mk k)) (.fail "") := by cases k <;> cases j <;> rfl
/-- Two kinds that are one: where its negative numbers begin. -/
def kH0 (j:IntKind) (κ:Nat->R):R := @IntKind.rec (fun _ => R) (κ 128) (.fail "") (.fail "") (.fail "") (.fail "") (.fail "") (.fail "") (.fail "") j
def kH1 (j:IntKind) (κ:Nat->R):R := @IntKind.rec (fun _ => R) (.fail "") (κ 32768) (.fail "") (.fail "") (.fail "") (.fail "") (.fail "") (.fail "") j
def kH2 (j:IntKind) (κ:Nat->R):R := @IntKind.rec (fun _ => R) (.fail "") (.fail "") (κ 2147483648) (.fail "") (.fail "") (.fail "") (.fail "") (.fail "") j
def kH3 (j:IntKind) (κ:Nat->R):R := @IntKind.rec (fun _ => R) (.fail "") (.fail "") (.fail "") (κ 9223372036854775808) (.fail "") (.fail "") (.fail "") (.fail "") j
def kH4 (j:IntKind) (κ:Nat->R):R := @IntKind.rec (fun _ => R) (.fail "") (.fail "") (.fail "") (.fail "") (κ 256) (.fail "") (.fail "") (.fail "") j
def kH5 (j:IntKind) (κ:Nat->R):R := @IntKind.rec (fun _ => R) (.fail "") (.fail "") (.fail "") (.fail "") (.fail "") (κ 65536) (.fail "") (.fail "") j
def kH6 (j:IntKind) (κ:Nat->R):R := @IntKind.rec (fun _ => R) (.fail "") (.fail "") (.fail "") (.fail "") (.fail "") (.fail "") (κ 4294967296) (.fail "") j
def kH7 (j:IntKind) (κ:Nat->R):R := @IntKind.rec (fun _ => R) (.fail "") (.fail "") (.fail "") (.fail "") (.fail "") (.fail "") (.fail "") (κ 18446744073709551616) j
def kH (k:IntKind):IntKind->(Nat->R)->R := @IntKind.rec (fun _ => IntKind->(Nat->R)->R) kH0 kH1 kH2 kH3 kH4 kH5 kH6 kH7 k
theorem Rr (k j:IntKind) (κ:Nat->R):kH k j κ=br (AZ k j) (κ (Hk k)) (.fail "") := by cases k <;> cases j <;> rfl
def WA (H a b:Nat):Bool := br (Nat.ble H a) (br (Nat.ble H b) (Nat.ble (Nat.succ a) b) true) (br (Nat.ble H b) false (Nat.ble (Nat.succ a) b))
theorem Vp (k:IntKind) (a b:Nat):WA (Hk k) a b=DO k a b := rfl
def BM (v:V) (a b:R):R := @V.rec (fun _ => R) (fun _ => Unit) (Ax "") (fun q => @Bool.rec (fun _ => R) b a q) (Ax "") (DX "") (Ax "") (Ax "") (AQ "") (AQ "") (C4 "") (Ax "") (fun o => @Ot.rec (fun _ => R) (.fail "") (fun _ => (.fail "")) (fun _ => (.fail "")) (.fail "") (fun _ _ _ => (.fail "")) (fun _ _ => (.fail "")) (.both a b) (fun _ _ => (.fail "")) (fun _ _ _ _ => (.fail "")) (fun _ _ _ _ => (.fail "")) (fun _ _ _ => (.fail "")) (fun _ _ => (.fail "")) (fun _ _ => (.fail "")) (fun _ _ _ => (.fail "")) (fun _ => (.fail "")) o) () (fun _ _ _ _ => ()) v
def AI (q a b:V) (κ:V->R):R := @V.rec (fun _ => R) (fun _ => Unit) (Ax "") (fun q => @Bool.rec (fun _ => R) (κ b) (κ a) q) (Ax "") (DX "") (Ax "") (Ax "") (AQ "") (AQ "") (C4 "") (Ax "") (AQ "") () (fun _ _ _ _ => ()) q
theorem VX (q a b:V) (κ:V->R):AI q a b κ=Qh q fun q => br q (κ a) (κ b) := by cases q <;> rfl
def AM (u v:V) (κ:V->R):R :=
  @V.rec (fun _ => R) (fun _ => Unit) (fun k a => @V.rec (fun _ => R) (fun _ => Unit) (fun j b => kM k j fun M => Aa (Nat.mod (Nat.add a b) M) fun r => κ (.int k r)) (AQ "") (Ax "") (DX "") (Ax "") (Ax "") (AQ "") (AQ "") (C4 "") (Ax "") (fun _ => KD .add u v κ) () (fun _ _ _ _ => ()) v) (AQ "") (Ax "") (DX "") (fun n c => Bc v fun m d => Yw n c m d κ) (Ax "") (AQ "") (AQ "") (C4 "") (Ax "") (fun _ => CE .add u v κ) () (fun _ _ _ _ => ()) u
def B9 (u v:V) (κ:V->R):R :=
  @V.rec (fun _ => R) (fun _ => Unit) (fun k a => @V.rec (fun _ => R) (fun _ => Unit) (fun j b => kM k j fun M => Aa (Nat.mod (Nat.add a (Nat.sub M b)) M) fun r => κ (.int k r)) (AQ "") (Ax "") (DX "") (Ax "") (Ax "") (AQ "") (AQ "") (C4 "") (Ax "") (fun _ => KD .sub u v κ) () (fun _ _ _ _ => ()) v) (AQ "") (Ax "") (DX "") (fun n c => Bc v fun m d => .fail "") (Ax "") (AQ "") (AQ "") (C4 "") (Ax "") (fun _ => CE .sub u v κ) () (fun _ _ _ _ => ()) u
def EG (u v:V) (κ:V->R):R :=
  @V.rec (fun _ => R) (fun _ => Unit) (fun k a => @V.rec (fun _ => R) (fun _ => Unit) (fun j b => kM k j fun M => Aa (Nat.mod (Nat.mul a b) M) fun r => κ (.int k r)) (AQ "") (Ax "") (DX "") (Ax "") (Ax "") (AQ "") (AQ "") (C4 "") (Ax "") (fun _ => KD .mul u v κ) () (fun _ _ _ _ => ()) v) (AQ "") (Ax "") (DX "") (fun n c => Bc v fun m d => .fail "") (Ax "") (AQ "") (AQ "") (C4 "") (Ax "") (fun _ => CE .mul u v κ) () (fun _ _ _ _ => ()) u
def F1 (u v:V) (κ:V->R):R :=
  @V.rec (fun _ => R) (fun _ => Unit) (fun k a => @V.rec (fun _ => R) (fun _ => Unit) (fun j b => SW k a j b κ) (AQ "") (Ax "") (DX "") (Ax "") (Ax "") (AQ "") (AQ "") (C4 "") (Ax "") (fun _ => KD .quo u v κ) () (fun _ _ _ _ => ()) v) (AQ "") (Ax "") (DX "") (fun n c => Bc v fun m d => .fail "") (Ax "") (AQ "") (AQ "") (C4 "") (Ax "") (fun _ => CE .quo u v κ) () (fun _ _ _ _ => ()) u
def FQ (u v:V) (κ:V->R):R :=
  @V.rec (fun _ => R) (fun _ => Unit) (fun k a => @V.rec (fun _ => R) (fun _ => Unit) (fun j b => LY k a j b κ) (AQ "") (Ax "") (DX "") (Ax "") (Ax "") (AQ "") (AQ "") (C4 "") (Ax "") (fun _ => KD .rem u v κ) () (fun _ _ _ _ => ()) v) (AQ "") (Ax "") (DX "") (fun n c => Bc v fun m d => .fail "") (Ax "") (AQ "") (AQ "") (C4 "") (Ax "") (fun _ => CE .rem u v κ) () (fun _ _ _ _ => ()) u
def I2 (u v:V) (κ:V->R):R :=
  @V.rec (fun _ => R) (fun _ => Unit) (fun k a => @V.rec (fun _ => R) (fun _ => Unit) (fun j b => VZ k a j b κ) (AQ "") (Ax "") (DX "") (Ax "") (Ax "") (AQ "") (AQ "") (C4 "") (Ax "") (fun _ => KD .and u v κ) () (fun _ _ _ _ => ()) v) (AQ "") (Ax "") (DX "") (fun n c => Bc v fun m d => .fail "") (Ax "") (AQ "") (AQ "") (C4 "") (Ax "") (fun _ => CE .and u v κ) () (fun _ _ _ _ => ()) u
def V2 (u v:V) (κ:V->R):R :=
  @V.rec (fun _ => R) (fun _ => Unit) (fun k a => @V.rec (fun _ => R) (fun _ => Unit) (fun j b => Zz k a j b κ) (AQ "") (Ax "") (DX "") (Ax "") (Ax "") (AQ "") (AQ "") (C4 "") (Ax "") (fun _ => KD .or u v κ) () (fun _ _ _ _ => ()) v) (AQ "") (Ax "") (DX "") (fun n c => Bc v fun m d => .fail "") (Ax "") (AQ "") (AQ "") (C4 "") (Ax "") (fun _ => CE .or u v κ) () (fun _ _ _ _ => ()) u
def I9 (u v:V) (κ:V->R):R :=
  @V.rec (fun _ => R) (fun _ => Unit) (fun k a => @V.rec (fun _ => R) (fun _ => Unit) (fun j b => UO k a j b κ) (AQ "") (Ax "") (DX "") (Ax "") (Ax "") (AQ "") (AQ "") (C4 "") (Ax "") (fun _ => KD .xor u v κ) () (fun _ _ _ _ => ()) v) (AQ "") (Ax "") (DX "") (fun n c => Bc v fun m d => .fail "") (Ax "") (AQ "") (AQ "") (C4 "") (Ax "") (fun _ => CE .xor u v κ) () (fun _ _ _ _ => ()) u
def PQ (u v:V) (κ:V->R):R :=
  @V.rec (fun _ => R) (fun _ => Unit) (fun k a => @V.rec (fun _ => R) (fun _ => Unit) (fun j b => Un k a j b κ) (AQ "") (Ax "") (DX "") (Ax "") (Ax "") (AQ "") (AQ "") (C4 "") (Ax "") (fun _ => KD .shl u v κ) () (fun _ _ _ _ => ()) v) (AQ "") (Ax "") (DX "") (fun n c => Bc v fun m d => .fail "") (Ax "") (AQ "") (AQ "") (C4 "") (Ax "") (fun _ => CE .shl u v κ) () (fun _ _ _ _ => ()) u
def F3 (u v:V) (κ:V->R):R :=
  @V.rec (fun _ => R) (fun _ => Unit) (fun k a => @V.rec (fun _ => R) (fun _ => Unit) (fun j b => SK k a j b κ) (AQ "") (Ax "") (DX "") (Ax "") (Ax "") (AQ "") (AQ "") (C4 "") (Ax "") (fun _ => KD .shr u v κ) () (fun _ _ _ _ => ()) v) (AQ "") (Ax "") (DX "") (fun n c => Bc v fun m d => .fail "") (Ax "") (AQ "") (AQ "") (C4 "") (Ax "") (fun _ => CE .shr u v κ) () (fun _ _ _ _ => ()) u
def Uu (u v:V) (κ:V->R):R :=
  @V.rec (fun _ => R) (fun _ => Unit) (fun k a => @V.rec (fun _ => R) (fun _ => Unit) (fun j b => Pi k a j b κ) (AQ "") (Ax "") (DX "") (Ax "") (Ax "") (AQ "") (AQ "") (C4 "") (Ax "") (fun _ => KD .andNot u v κ) () (fun _ _ _ _ => ()) v) (AQ "") (Ax "") (DX "") (fun n c => Bc v fun m d => .fail "") (Ax "") (AQ "") (AQ "") (C4 "") (Ax "") (fun _ => CE .andNot u v κ) () (fun _ _ _ _ => ()) u
def BH (u v:V) (κ:V->R):R :=
  @V.rec (fun _ => R) (fun _ => Unit) (fun k a => @V.rec (fun _ => R) (fun _ => Unit) (fun j b => kM k j fun _ => BW (Nat.beq a b) fun r => κ (.bool r)) (AQ "") (Ax "") (DX "") (Ax "") (Ax "") (AQ "") (AQ "") (C4 "") (Ax "") (fun _ => KD .eql u v κ) () (fun _ _ _ _ => ()) v) (AQ "") (Ax "") (DX "") (fun n c => Bc v fun m d => Z5 n c m d κ) (Ax "") (AQ "") (AQ "") (C4 "") (Ax "") (fun _ => CE .eql u v κ) () (fun _ _ _ _ => ()) u
def Cw (u v:V) (κ:V->R):R :=
  @V.rec (fun _ => R) (fun _ => Unit) (fun k a => @V.rec (fun _ => R) (fun _ => Unit) (fun j b => kM k j fun _ => br (Nat.beq a b) (κ (.bool false)) (κ (.bool true))) (AQ "") (Ax "") (DX "") (Ax "") (Ax "") (AQ "") (AQ "") (C4 "") (Ax "") (fun _ => KD .neq u v κ) () (fun _ _ _ _ => ()) v) (AQ "") (Ax "") (DX "") (fun n c => Bc v fun m d => sne n c m d κ) (Ax "") (AQ "") (AQ "") (C4 "") (Ax "") (fun _ => CE .neq u v κ) () (fun _ _ _ _ => ()) u
def Ba (u v:V) (κ:V->R):R :=
  @V.rec (fun _ => R) (fun _ => Unit) (fun k a => @V.rec (fun _ => R) (fun _ => Unit) (fun j b => kH k j fun H => BW (WA H a b) fun r => κ (.bool r)) (AQ "") (Ax "") (DX "") (Ax "") (Ax "") (AQ "") (AQ "") (C4 "") (Ax "") (fun _ => KD .lss u v κ) () (fun _ _ _ _ => ()) v) (AQ "") (Ax "") (DX "") (fun n c => Bc v fun m d => slt n c m d κ) (Ax "") (AQ "") (AQ "") (C4 "") (Ax "") (fun _ => CE .lss u v κ) () (fun _ _ _ _ => ()) u
def Dp (u v:V) (κ:V->R):R :=
  @V.rec (fun _ => R) (fun _ => Unit) (fun k a => @V.rec (fun _ => R) (fun _ => Unit) (fun j b => kH k j fun H => br (WA H b a) (κ (.bool false)) (κ (.bool true))) (AQ "") (Ax "") (DX "") (Ax "") (Ax "") (AQ "") (AQ "") (C4 "") (Ax "") (fun _ => KD .leq u v κ) () (fun _ _ _ _ => ()) v) (AQ "") (Ax "") (DX "") (fun n c => Bc v fun m d => .fail "") (Ax "") (AQ "") (AQ "") (C4 "") (Ax "") (fun _ => CE .leq u v κ) () (fun _ _ _ _ => ()) u
def DT (u v:V) (κ:V->R):R :=
  @V.rec (fun _ => R) (fun _ => Unit) (fun k a => @V.rec (fun _ => R) (fun _ => Unit) (fun j b => kH k j fun H => BW (WA H b a) fun r => κ (.bool r)) (AQ "") (Ax "") (DX "") (Ax "") (Ax "") (AQ "") (AQ "") (C4 "") (Ax "") (fun _ => KD .gtr u v κ) () (fun _ _ _ _ => ()) v) (AQ "") (Ax "") (DX "") (fun n c => Bc v fun m d => .fail "") (Ax "") (AQ "") (AQ "") (C4 "") (Ax "") (fun _ => CE .gtr u v κ) () (fun _ _ _ _ => ()) u
def Cv (u v:V) (κ:V->R):R :=
  @V.rec (fun _ => R) (fun _ => Unit) (fun k a => @V.rec (fun _ => R) (fun _ => Unit) (fun j b => kH k j fun H => br (WA H a b) (κ (.bool false)) (κ (.bool true))) (AQ "") (Ax "") (DX "") (Ax "") (Ax "") (AQ "") (AQ "") (C4 "") (Ax "") (fun _ => KD .geq u v κ) () (fun _ _ _ _ => ()) v) (AQ "") (Ax "") (DX "") (fun n c => Bc v fun m d => sge n c m d κ) (Ax "") (AQ "") (AQ "") (C4 "") (Ax "") (fun _ => CE .geq u v κ) () (fun _ _ _ _ => ()) u
abbrev YX (op:BinOp):V->V->(V->R)->R := @BinOp.rec (fun _ => V->V->(V->R)->R) AM B9 EG F1 FQ I2 V2 I9 PQ F3 Uu BH Cw Ba Dp DT Cv op
theorem Kx (op:BinOp) (u v:V) (κ:V->R):YX op u v κ=Ki op u v κ := by
  cases u with
  | int k a =>
    cases v with
    | int j b =>
      cases op
      case add => cases k <;> cases j <;> rfl
      case sub => cases k <;> cases j <;> rfl
      case mul => cases k <;> cases j <;> rfl
      case eql => cases k <;> cases j <;> rfl
      case neq => cases k <;> cases j <;> rfl
      case lss => cases k <;> cases j <;> rfl
      case leq => cases k <;> cases j <;> rfl
      case gtr => cases k <;> cases j <;> rfl
      case geq => cases k <;> cases j <;> rfl
      all_goals rfl
    | _ => cases op <;> rfl
  | str n c => cases op <;> rfl
  | _ => cases op <;> rfl
/-- A value of one cell put at a place of a list. -/
def C1 (m:Nat):List V->V->(List V->R)->R :=
  @Nat.rec (fun _ => List V->V->(List V->R)->R) (fun xs v k => @List.rec V (fun _ => R) (.fail "") (fun _ ys _ => k (v::ys)) xs)
    (fun _ ih xs v k => @List.rec V (fun _ => R) (.fail "") (fun x ys _ => ih ys v fun zs => k (x::zs)) xs) m
def Su (off size:Nat) (z:List V) (κ:List V->R) (l:List V):R := GL l fun m => br (Nat.beq m size) (M3 z off l κ) (.fail "")
def Dg (off size:Nat) (v:V) (z:List V) (κ:List V->R):R := Es v (Su off size z κ)
/-- A part of one cell. -/
def AF (off:Nat) (v:V) (z:List V) (κ:List V->R):R :=
  @V.rec (fun _ => R) (fun _ => Unit) (fun _ _ => C1 off z v κ) (fun _ => C1 off z v κ) (fun _ _ => C1 off z v κ) (fun _ _ _ _ _ _ => C1 off z v κ) (fun _ _ => C1 off z v κ) (fun l _ => Su off 1 z κ l) (fun _ => C1 off z v κ) (fun _ => C1 off z v κ) (fun _ _ _ => C1 off z v κ) (Ax "") (fun o => @Ot.rec (fun _ => R) (.fail "") (fun _ => C1 off z v κ) (AQ "") (.fail "") (fun _ _ _ => C1 off z v κ) (fun _ _ => C1 off z v κ) (C1 off z v κ) (fun _ _ => C1 off z v κ) (fun _ _ _ _ => C1 off z v κ) (fun _ _ _ _ => C1 off z v κ) (fun _ _ _ => C1 off z v κ) (fun _ _ => C1 off z v κ) (fun _ _ => C1 off z v κ) (fun _ _ _ => C1 off z v κ) (fun _ => C1 off z v κ) o) () (fun _ _ _ _ => ()) v
theorem Lv (off:Nat):∀ (z:List V) (v:V) (κ:List V->R), C1 off z v κ=M3 z off [v] κ := by
  induction off with
  | zero => intro z v κ; cases z <;> rfl
  | succ off ih =>
    intro z v κ
    cases z with
    | nil => rfl
    | cons x z =>
      have e1:C1 (off+1) (x::z) v κ=C1 off z v fun zs => κ (x::zs) := rfl
      rw [e1, ih]
      have e2:M3 (x::z) (off+1) [v] κ=D7 (off+1) (x::z) fun a => DA (off+2) (x::z) fun b => EQ [v] b fun t => EQ a t κ := rfl
      have e3:M3 z off [v] (fun zs => κ (x::zs))=D7 off z fun a => DA (off+1) z fun b => EQ [v] b fun t => EQ a t fun zs => κ (x::zs) := rfl
      rw [e2, e3]
      have e4:∀ F:List V->R, D7 (off+1) (x::z) F=D7 off z fun a => F (x::a) := fun F => rfl
      rw [e4]; rfl
theorem QX (off:Nat) (v:V) (z:List V) (κ:List V->R):AF off v z κ=Dg off 1 v z κ := by
  cases v with
  | agg l => rfl
  | tup l => rfl
  | oth o => cases o with
    | any => rfl
    | yl p => rfl
    | no => rfl
    | _ => exact Lv off z _ κ
  | _ => exact Lv off z _ κ
abbrev IQ (off size:Nat) (v:V) (z:List V) (κ:List V->R):R := @Bool.rec (fun _ => R) (Dg off size v z κ) (AF off v z κ) (Nat.beq size 1)
theorem Re (off size:Nat) (v:V) (z:List V) (κ:List V->R):IQ off size v z κ=Dg off size v z κ := by
  unfold IQ
  cases hb:Nat.beq size 1 with
  | true => rw [Nat.eq_of_beq_eq_true hb]; exact QX off v z κ
  | false => rfl
def HA.selR (d:D):HA->(Ch->R)->R :=
  @D.rec (fun _ => HA->(Ch->R)->R) (fun p k => @HA.rec (fun _ => R) (fun A B C E F G I J L M N O P Q T U => k A) p) (fun p k => @HA.rec (fun _ => R) (fun A B C E F G I J L M N O P Q T U => k B) p) (fun p k => @HA.rec (fun _ => R) (fun A B C E F G I J L M N O P Q T U => k C) p) (fun p k => @HA.rec (fun _ => R) (fun A B C E F G I J L M N O P Q T U => k E) p) (fun p k => @HA.rec (fun _ => R) (fun A B C E F G I J L M N O P Q T U => k F) p) (fun p k => @HA.rec (fun _ => R) (fun A B C E F G I J L M N O P Q T U => k G) p) (fun p k => @HA.rec (fun _ => R) (fun A B C E F G I J L M N O P Q T U => k I) p) (fun p k => @HA.rec (fun _ => R) (fun A B C E F G I J L M N O P Q T U => k J) p) (fun p k => @HA.rec (fun _ => R) (fun A B C E F G I J L M N O P Q T U => k L) p) (fun p k => @HA.rec (fun _ => R) (fun A B C E F G I J L M N O P Q T U => k M) p) (fun p k => @HA.rec (fun _ => R) (fun A B C E F G I J L M N O P Q T U => k N) p) (fun p k => @HA.rec (fun _ => R) (fun A B C E F G I J L M N O P Q T U => k O) p) (fun p k => @HA.rec (fun _ => R) (fun A B C E F G I J L M N O P Q T U => k P) p) (fun p k => @HA.rec (fun _ => R) (fun A B C E F G I J L M N O P Q T U => k Q) p) (fun p k => @HA.rec (fun _ => R) (fun A B C E F G I J L M N O P Q T U => k T) p) (fun p k => @HA.rec (fun _ => R) (fun A B C E F G I J L M N O P Q T U => k U) p) d
theorem HA.selR_eq (d:D) (p:HA) (k:Ch->R):HA.selR d p k=k (HA.sel d p) := by
  cases d <;> cases p <;> rfl
def HA.opR (d:D):HA->(Ch->(Ch->(HA->R)->R)->R)->R :=
  @D.rec (fun _ => HA->(Ch->(Ch->(HA->R)->R)->R)->R) (fun p k => @HA.rec (fun _ => R) (fun A B C E F G I J L M N O P Q T U => k A fun v q => q (.mk v B C E F G I J L M N O P Q T U)) p) (fun p k => @HA.rec (fun _ => R) (fun A B C E F G I J L M N O P Q T U => k B fun v q => q (.mk A v C E F G I J L M N O P Q T U)) p) (fun p k => @HA.rec (fun _ => R) (fun A B C E F G I J L M N O P Q T U => k C fun v q => q (.mk A B v E F G I J L M N O P Q T U)) p) (fun p k => @HA.rec (fun _ => R) (fun A B C E F G I J L M N O P Q T U => k E fun v q => q (.mk A B C v F G I J L M N O P Q T U)) p) (fun p k => @HA.rec (fun _ => R) (fun A B C E F G I J L M N O P Q T U => k F fun v q => q (.mk A B C E v G I J L M N O P Q T U)) p) (fun p k => @HA.rec (fun _ => R) (fun A B C E F G I J L M N O P Q T U => k G fun v q => q (.mk A B C E F v I J L M N O P Q T U)) p) (fun p k => @HA.rec (fun _ => R) (fun A B C E F G I J L M N O P Q T U => k I fun v q => q (.mk A B C E F G v J L M N O P Q T U)) p) (fun p k => @HA.rec (fun _ => R) (fun A B C E F G I J L M N O P Q T U => k J fun v q => q (.mk A B C E F G I v L M N O P Q T U)) p) (fun p k => @HA.rec (fun _ => R) (fun A B C E F G I J L M N O P Q T U => k L fun v q => q (.mk A B C E F G I J v M N O P Q T U)) p) (fun p k => @HA.rec (fun _ => R) (fun A B C E F G I J L M N O P Q T U => k M fun v q => q (.mk A B C E F G I J L v N O P Q T U)) p) (fun p k => @HA.rec (fun _ => R) (fun A B C E F G I J L M N O P Q T U => k N fun v q => q (.mk A B C E F G I J L M v O P Q T U)) p) (fun p k => @HA.rec (fun _ => R) (fun A B C E F G I J L M N O P Q T U => k O fun v q => q (.mk A B C E F G I J L M N v P Q T U)) p) (fun p k => @HA.rec (fun _ => R) (fun A B C E F G I J L M N O P Q T U => k P fun v q => q (.mk A B C E F G I J L M N O v Q T U)) p) (fun p k => @HA.rec (fun _ => R) (fun A B C E F G I J L M N O P Q T U => k Q fun v q => q (.mk A B C E F G I J L M N O P v T U)) p) (fun p k => @HA.rec (fun _ => R) (fun A B C E F G I J L M N O P Q T U => k T fun v q => q (.mk A B C E F G I J L M N O P Q v U)) p) (fun p k => @HA.rec (fun _ => R) (fun A B C E F G I J L M N O P Q T U => k U fun v q => q (.mk A B C E F G I J L M N O P Q T v)) p) d
theorem HA.opR_eq (d:D) (p:HA) (k:Ch->(Ch->(HA->R)->R)->R):HA.opR d p k=k (HA.sel d p) fun v q => q (HA.setS d p v) := by
  cases d <;> cases p <;> rfl
def HB.selR (d:D):HB->(HA->R)->R :=
  @D.rec (fun _ => HB->(HA->R)->R) (fun p k => @HB.rec (fun _ => R) (fun A B C E F G I J L M N O P Q T U => k A) p) (fun p k => @HB.rec (fun _ => R) (fun A B C E F G I J L M N O P Q T U => k B) p) (fun p k => @HB.rec (fun _ => R) (fun A B C E F G I J L M N O P Q T U => k C) p) (fun p k => @HB.rec (fun _ => R) (fun A B C E F G I J L M N O P Q T U => k E) p) (fun p k => @HB.rec (fun _ => R) (fun A B C E F G I J L M N O P Q T U => k F) p) (fun p k => @HB.rec (fun _ => R) (fun A B C E F G I J L M N O P Q T U => k G) p) (fun p k => @HB.rec (fun _ => R) (fun A B C E F G I J L M N O P Q T U => k I) p) (fun p k => @HB.rec (fun _ => R) (fun A B C E F G I J L M N O P Q T U => k J) p) (fun p k => @HB.rec (fun _ => R) (fun A B C E F G I J L M N O P Q T U => k L) p) (fun p k => @HB.rec (fun _ => R) (fun A B C E F G I J L M N O P Q T U => k M) p) (fun p k => @HB.rec (fun _ => R) (fun A B C E F G I J L M N O P Q T U => k N) p) (fun p k => @HB.rec (fun _ => R) (fun A B C E F G I J L M N O P Q T U => k O) p) (fun p k => @HB.rec (fun _ => R) (fun A B C E F G I J L M N O P Q T U => k P) p) (fun p k => @HB.rec (fun _ => R) (fun A B C E F G I J L M N O P Q T U => k Q) p) (fun p k => @HB.rec (fun _ => R) (fun A B C E F G I J L M N O P Q T U => k T) p) (fun p k => @HB.rec (fun _ => R) (fun A B C E F G I J L M N O P Q T U => k U) p) d
theorem HB.selR_eq (d:D) (p:HB) (k:HA->R):HB.selR d p k=k (HB.sel d p) := by
  cases d <;> cases p <;> rfl
def HB.opR (d:D):HB->(HA->(HA->(HB->R)->R)->R)->R :=
  @D.rec (fun _ => HB->(HA->(HA->(HB->R)->R)->R)->R) (fun p k => @HB.rec (fun _ => R) (fun A B C E F G I J L M N O P Q T U => k A fun v q => q (.mk v B C E F G I J L M N O P Q T U)) p) (fun p k => @HB.rec (fun _ => R) (fun A B C E F G I J L M N O P Q T U => k B fun v q => q (.mk A v C E F G I J L M N O P Q T U)) p) (fun p k => @HB.rec (fun _ => R) (fun A B C E F G I J L M N O P Q T U => k C fun v q => q (.mk A B v E F G I J L M N O P Q T U)) p) (fun p k => @HB.rec (fun _ => R) (fun A B C E F G I J L M N O P Q T U => k E fun v q => q (.mk A B C v F G I J L M N O P Q T U)) p) (fun p k => @HB.rec (fun _ => R) (fun A B C E F G I J L M N O P Q T U => k F fun v q => q (.mk A B C E v G I J L M N O P Q T U)) p) (fun p k => @HB.rec (fun _ => R) (fun A B C E F G I J L M N O P Q T U => k G fun v q => q (.mk A B C E F v I J L M N O P Q T U)) p) (fun p k => @HB.rec (fun _ => R) (fun A B C E F G I J L M N O P Q T U => k I fun v q => q (.mk A B C E F G v J L M N O P Q T U)) p) (fun p k => @HB.rec (fun _ => R) (fun A B C E F G I J L M N O P Q T U => k J fun v q => q (.mk A B C E F G I v L M N O P Q T U)) p) (fun p k => @HB.rec (fun _ => R) (fun A B C E F G I J L M N O P Q T U => k L fun v q => q (.mk A B C E F G I J v M N O P Q T U)) p) (fun p k => @HB.rec (fun _ => R) (fun A B C E F G I J L M N O P Q T U => k M fun v q => q (.mk A B C E F G I J L v N O P Q T U)) p) (fun p k => @HB.rec (fun _ => R) (fun A B C E F G I J L M N O P Q T U => k N fun v q => q (.mk A B C E F G I J L M v O P Q T U)) p) (fun p k => @HB.rec (fun _ => R) (fun A B C E F G I J L M N O P Q T U => k O fun v q => q (.mk A B C E F G I J L M N v P Q T U)) p) (fun p k => @HB.rec (fun _ => R) (fun A B C E F G I J L M N O P Q T U => k P fun v q => q (.mk A B C E F G I J L M N O v Q T U)) p) (fun p k => @HB.rec (fun _ => R) (fun A B C E F G I J L M N O P Q T U => k Q fun v q => q (.mk A B C E F G I J L M N O P v T U)) p) (fun p k => @HB.rec (fun _ => R) (fun A B C E F G I J L M N O P Q T U => k T fun v q => q (.mk A B C E F G I J L M N O P Q v U)) p) (fun p k => @HB.rec (fun _ => R) (fun A B C E F G I J L M N O P Q T U => k U fun v q => q (.mk A B C E F G I J L M N O P Q T v)) p) d
theorem HB.opR_eq (d:D) (p:HB) (k:HA->(HA->(HB->R)->R)->R):HB.opR d p k=k (HB.sel d p) fun v q => q (HB.setS d p v) := by
  cases d <;> cases p <;> rfl
def HC.selR (d:D):HC->(HB->R)->R :=
  @D.rec (fun _ => HC->(HB->R)->R) (fun p k => @HC.rec (fun _ => R) (fun A B C E F G I J L M N O P Q T U => k A) p) (fun p k => @HC.rec (fun _ => R) (fun A B C E F G I J L M N O P Q T U => k B) p) (fun p k => @HC.rec (fun _ => R) (fun A B C E F G I J L M N O P Q T U => k C) p) (fun p k => @HC.rec (fun _ => R) (fun A B C E F G I J L M N O P Q T U => k E) p) (fun p k => @HC.rec (fun _ => R) (fun A B C E F G I J L M N O P Q T U => k F) p) (fun p k => @HC.rec (fun _ => R) (fun A B C E F G I J L M N O P Q T U => k G) p) (fun p k => @HC.rec (fun _ => R) (fun A B C E F G I J L M N O P Q T U => k I) p) (fun p k => @HC.rec (fun _ => R) (fun A B C E F G I J L M N O P Q T U => k J) p) (fun p k => @HC.rec (fun _ => R) (fun A B C E F G I J L M N O P Q T U => k L) p) (fun p k => @HC.rec (fun _ => R) (fun A B C E F G I J L M N O P Q T U => k M) p) (fun p k => @HC.rec (fun _ => R) (fun A B C E F G I J L M N O P Q T U => k N) p) (fun p k => @HC.rec (fun _ => R) (fun A B C E F G I J L M N O P Q T U => k O) p) (fun p k => @HC.rec (fun _ => R) (fun A B C E F G I J L M N O P Q T U => k P) p) (fun p k => @HC.rec (fun _ => R) (fun A B C E F G I J L M N O P Q T U => k Q) p) (fun p k => @HC.rec (fun _ => R) (fun A B C E F G I J L M N O P Q T U => k T) p) (fun p k => @HC.rec (fun _ => R) (fun A B C E F G I J L M N O P Q T U => k U) p) d
theorem HC.selR_eq (d:D) (p:HC) (k:HB->R):HC.selR d p k=k (HC.sel d p) := by
  cases d <;> cases p <;> rfl
def HC.opR (d:D):HC->(HB->(HB->(HC->R)->R)->R)->R :=
  @D.rec (fun _ => HC->(HB->(HB->(HC->R)->R)->R)->R) (fun p k => @HC.rec (fun _ => R) (fun A B C E F G I J L M N O P Q T U => k A fun v q => q (.mk v B C E F G I J L M N O P Q T U)) p) (fun p k => @HC.rec (fun _ => R) (fun A B C E F G I J L M N O P Q T U => k B fun v q => q (.mk A v C E F G I J L M N O P Q T U)) p) (fun p k => @HC.rec (fun _ => R) (fun A B C E F G I J L M N O P Q T U => k C fun v q => q (.mk A B v E F G I J L M N O P Q T U)) p) (fun p k => @HC.rec (fun _ => R) (fun A B C E F G I J L M N O P Q T U => k E fun v q => q (.mk A B C v F G I J L M N O P Q T U)) p) (fun p k => @HC.rec (fun _ => R) (fun A B C E F G I J L M N O P Q T U => k F fun v q => q (.mk A B C E v G I J L M N O P Q T U)) p) (fun p k => @HC.rec (fun _ => R) (fun A B C E F G I J L M N O P Q T U => k G fun v q => q (.mk A B C E F v I J L M N O P Q T U)) p) (fun p k => @HC.rec (fun _ => R) (fun A B C E F G I J L M N O P Q T U => k I fun v q => q (.mk A B C E F G v J L M N O P Q T U)) p) (fun p k => @HC.rec (fun _ => R) (fun A B C E F G I J L M N O P Q T U => k J fun v q => q (.mk A B C E F G I v L M N O P Q T U)) p) (fun p k => @HC.rec (fun _ => R) (fun A B C E F G I J L M N O P Q T U => k L fun v q => q (.mk A B C E F G I J v M N O P Q T U)) p) (fun p k => @HC.rec (fun _ => R) (fun A B C E F G I J L M N O P Q T U => k M fun v q => q (.mk A B C E F G I J L v N O P Q T U)) p) (fun p k => @HC.rec (fun _ => R) (fun A B C E F G I J L M N O P Q T U => k N fun v q => q (.mk A B C E F G I J L M v O P Q T U)) p) (fun p k => @HC.rec (fun _ => R) (fun A B C E F G I J L M N O P Q T U => k O fun v q => q (.mk A B C E F G I J L M N v P Q T U)) p) (fun p k => @HC.rec (fun _ => R) (fun A B C E F G I J L M N O P Q T U => k P fun v q => q (.mk A B C E F G I J L M N O v Q T U)) p) (fun p k => @HC.rec (fun _ => R) (fun A B C E F G I J L M N O P Q T U => k Q fun v q => q (.mk A B C E F G I J L M N O P v T U)) p) (fun p k => @HC.rec (fun _ => R) (fun A B C E F G I J L M N O P Q T U => k T fun v q => q (.mk A B C E F G I J L M N O P Q v U)) p) (fun p k => @HC.rec (fun _ => R) (fun A B C E F G I J L M N O P Q T U => k U fun v q => q (.mk A B C E F G I J L M N O P Q T v)) p) d
theorem HC.opR_eq (d:D) (p:HC) (k:HB->(HB->(HC->R)->R)->R):HC.opR d p k=k (HC.sel d p) fun v q => q (HC.setS d p v) := by
  cases d <;> cases p <;> rfl
def Heap.selR (d:D):Heap->(HC->R)->R :=
  @D.rec (fun _ => Heap->(HC->R)->R) (fun p k => @Heap.rec (fun _ => R) (fun A B C E F G I J L M N O P Q T U => k A) p) (fun p k => @Heap.rec (fun _ => R) (fun A B C E F G I J L M N O P Q T U => k B) p) (fun p k => @Heap.rec (fun _ => R) (fun A B C E F G I J L M N O P Q T U => k C) p) (fun p k => @Heap.rec (fun _ => R) (fun A B C E F G I J L M N O P Q T U => k E) p) (fun p k => @Heap.rec (fun _ => R) (fun A B C E F G I J L M N O P Q T U => k F) p) (fun p k => @Heap.rec (fun _ => R) (fun A B C E F G I J L M N O P Q T U => k G) p) (fun p k => @Heap.rec (fun _ => R) (fun A B C E F G I J L M N O P Q T U => k I) p) (fun p k => @Heap.rec (fun _ => R) (fun A B C E F G I J L M N O P Q T U => k J) p) (fun p k => @Heap.rec (fun _ => R) (fun A B C E F G I J L M N O P Q T U => k L) p) (fun p k => @Heap.rec (fun _ => R) (fun A B C E F G I J L M N O P Q T U => k M) p) (fun p k => @Heap.rec (fun _ => R) (fun A B C E F G I J L M N O P Q T U => k N) p) (fun p k => @Heap.rec (fun _ => R) (fun A B C E F G I J L M N O P Q T U => k O) p) (fun p k => @Heap.rec (fun _ => R) (fun A B C E F G I J L M N O P Q T U => k P) p) (fun p k => @Heap.rec (fun _ => R) (fun A B C E F G I J L M N O P Q T U => k Q) p) (fun p k => @Heap.rec (fun _ => R) (fun A B C E F G I J L M N O P Q T U => k T) p) (fun p k => @Heap.rec (fun _ => R) (fun A B C E F G I J L M N O P Q T U => k U) p) d
theorem Heap.selR_eq (d:D) (p:Heap) (k:HC->R):Heap.selR d p k=k (Heap.sel d p) := by
  cases d <;> cases p <;> rfl
def Heap.opR (d:D):Heap->(HC->(HC->(Heap->R)->R)->R)->R :=
  @D.rec (fun _ => Heap->(HC->(HC->(Heap->R)->R)->R)->R) (fun p k => @Heap.rec (fun _ => R) (fun A B C E F G I J L M N O P Q T U => k A fun v q => q (.mk v B C E F G I J L M N O P Q T U)) p) (fun p k => @Heap.rec (fun _ => R) (fun A B C E F G I J L M N O P Q T U => k B fun v q => q (.mk A v C E F G I J L M N O P Q T U)) p) (fun p k => @Heap.rec (fun _ => R) (fun A B C E F G I J L M N O P Q T U => k C fun v q => q (.mk A B v E F G I J L M N O P Q T U)) p) (fun p k => @Heap.rec (fun _ => R) (fun A B C E F G I J L M N O P Q T U => k E fun v q => q (.mk A B C v F G I J L M N O P Q T U)) p) (fun p k => @Heap.rec (fun _ => R) (fun A B C E F G I J L M N O P Q T U => k F fun v q => q (.mk A B C E v G I J L M N O P Q T U)) p) (fun p k => @Heap.rec (fun _ => R) (fun A B C E F G I J L M N O P Q T U => k G fun v q => q (.mk A B C E F v I J L M N O P Q T U)) p) (fun p k => @Heap.rec (fun _ => R) (fun A B C E F G I J L M N O P Q T U => k I fun v q => q (.mk A B C E F G v J L M N O P Q T U)) p) (fun p k => @Heap.rec (fun _ => R) (fun A B C E F G I J L M N O P Q T U => k J fun v q => q (.mk A B C E F G I v L M N O P Q T U)) p) (fun p k => @Heap.rec (fun _ => R) (fun A B C E F G I J L M N O P Q T U => k L fun v q => q (.mk A B C E F G I J v M N O P Q T U)) p) (fun p k => @Heap.rec (fun _ => R) (fun A B C E F G I J L M N O P Q T U => k M fun v q => q (.mk A B C E F G I J L v N O P Q T U)) p) (fun p k => @Heap.rec (fun _ => R) (fun A B C E F G I J L M N O P Q T U => k N fun v q => q (.mk A B C E F G I J L M v O P Q T U)) p) (fun p k => @Heap.rec (fun _ => R) (fun A B C E F G I J L M N O P Q T U => k O fun v q => q (.mk A B C E F G I J L M N v P Q T U)) p) (fun p k => @Heap.rec (fun _ => R) (fun A B C E F G I J L M N O P Q T U => k P fun v q => q (.mk A B C E F G I J L M N O v Q T U)) p) (fun p k => @Heap.rec (fun _ => R) (fun A B C E F G I J L M N O P Q T U => k Q fun v q => q (.mk A B C E F G I J L M N O P v T U)) p) (fun p k => @Heap.rec (fun _ => R) (fun A B C E F G I J L M N O P Q T U => k T fun v q => q (.mk A B C E F G I J L M N O P Q v U)) p) (fun p k => @Heap.rec (fun _ => R) (fun A B C E F G I J L M N O P Q T U => k U fun v q => q (.mk A B C E F G I J L M N O P Q T v)) p) d
theorem Heap.opR_eq (d:D) (p:Heap) (k:HC->(HC->(Heap->R)->R)->R):Heap.opR d p k=k (Heap.sel d p) fun v q => q (Heap.setS d p v) := by
  cases d <;> cases p <;> rfl
def Be (p:K4) (h:Heap) (κ:Ch->R):R :=
  @K4.rec (fun _ => R) (fun a b c d => Heap.selR a h fun x => HC.selR b x fun y => HB.selR c y fun z => HA.selR d z κ) p
theorem Bi (p:K4) (h:Heap) (κ:Ch->R):Be p h κ=κ (A9 p h) := by
  cases p; simp only [Be, Heap.selR_eq, HC.selR_eq, HB.selR_eq, HA.selR_eq, A9]
/-- What stands at a place, and how another thing is put there. -/
def Uo (p:K4) (h:Heap) (κ:Ch->(Ch->(Heap->R)->R)->R):R :=
  @K4.rec (fun _ => R) (fun a b c d => Heap.opR a h fun x px => HC.opR b x fun y py => HB.opR c y fun z pz => HA.opR d z fun o po => κ o fun o k => po o fun z => pz z fun y => py y fun x => px x k) p
theorem O5 (p:K4) (h:Heap) (κ:Ch->(Ch->(Heap->R)->R)->R):Uo p h κ=κ (A9 p h) fun o k => k (Ae p h o) := by
  cases p
  simp only [Uo, Heap.opR_eq, HC.opR_eq, HB.opR_eq, HA.opR_eq, A9, Ae, EV, Heap.setK_eq, HC.setK_eq, HB.setK_eq, HA.setK_eq, Heap.selK_eq, HC.selK_eq, HB.selK_eq]
  rfl
def BN (p:K4) (h:Heap) (o:Ch) (κ:Heap->R):R := Uo p h fun _ put => put o κ
theorem BP (p:K4) (h:Heap) (o:Ch) (κ:Heap->R):BN p h o κ=EV p h o κ := by
  rw [BN, O5, AT]
def JV (p:K4) (h:Heap) (κ:Cs->Bool->Option K4->R):R :=
  Be p h fun o => @Option.rec Ob (fun _ => R) (.fail "") (fun o => @Ob.rec (fun _ => R) κ (C4 "") (Fh "") (.fail "") (Ax "") o) o
theorem Dj:JV=Hs := by
  funext p h κ
  rw [JV, Bi, Hs, Cg]
def Rv (p:K4) (h:Heap) (κ:List (V×V)->List Nat->Nat->R):R :=
  Be p h fun o => @Option.rec Ob (fun _ => R) (.fail "") (fun o => @Ob.rec (fun _ => R) (C4 "") κ (Fh "") (.fail "") (Ax "") o) o
theorem Ft:Rv=MK := by
  funext p h κ
  rw [Rv, Bi, MK, Cg]
def DZ (h:Heap) (n:K4) (o:Ob) (κ:Heap->K4->R):R := BN n h (some o) fun h' => n.nx fun n' => κ h' n'
theorem HO:DZ=D9 := by
  funext h n o κ
  rw [DZ, BP, D9]
def Oa (h:Heap) (p:K4) (f:Cs->(Cs->R)->R) (κ:Heap->R):R :=
  Uo p h fun o put => @Option.rec Ob (fun _ => R) (.fail "") (fun o => @Ob.rec (fun _ => R) (fun cs sup prev => br sup (.fail "") (f cs fun cs' =>
    @Option.rec K4 (fun _ => R) (put (some (.c cs' false none)) κ) (fun q => BN q h none fun h => BN p h (some (.c cs' false none)) κ) prev)) (C4 "") (Fh "") (.fail "") (Ax "") o) o
theorem Ju (h:Heap) (p:K4) (f:Cs->(Cs->R)->R) (κ:Heap->R):Oa h p f κ=Hs p h fun cs sup prev => br sup (.fail "") (f cs fun cs' => Ia prev h fun h => EV p h (some (.c cs' false none)) κ) := by
  rw [Oa, O5, Hs, Cg]
  cases A9 p h with
  | none => rfl
  | some o => cases o with
    | m es bs c => rfl
    | it _ _ _ _ => rfl
    | it0 => rfl
    | lp _ _ => rfl
    | c cs sup prev =>
      show br sup _ (f cs fun cs' => _)=br sup _ (f cs fun cs' => _)
      congr 2; funext cs'
      cases prev with
      | none => exact (AT _ _ _ _).symm
      | some q => exact (BP _ _ _ _).trans (congrArg _ (funext fun h => BP _ _ _ _))
def E5 (h:Heap) (p:K4) (off:Nat) (y:Cs) (κ:Heap->R):R := Oa h p (fun cs k => Mh cs off y k) κ
theorem Gh:E5=E1 := by
  funext h p off y κ
  exact Ju _ _ _ _
/-- One cell put among others. -/
def XN (cs:Cs) (off:Nat) (v:V) (κ:Cs->R):R :=
  @Cs.rec (fun _ => R) (fun xs => C1 off xs v fun zs => κ (.l zs)) (fun n c => JT v (fun r => PI n c off 1 r κ) (.fail "")) cs
theorem W7 (cs:Cs) (off:Nat) (v:V) (κ:Cs->R):XN cs off v κ=Mh cs off (.l [v]) κ := by
  cases cs with
  | l xs => exact Lv off xs v _
  | b n c =>
    show JT v (fun r => PI n c off 1 r κ) _=JT v (fun r => Aa (Nat.succ 0) fun n' => Aa (Nat.add r (Nat.mul 256 0)) fun d => PI n c off n' d κ) _
    congr 1; funext r
    rw [A7, A7]; rfl
def BR (esz eb:Nat) (x:V) (m:Nat) (y:Cs) (h:Heap) (n:K4) (κ:KV):R :=
  Ei x
    (br (Nat.beq m 0) (κ (.nil .sl) h n) (br (Nat.ble (Nat.mul (Nat.add (Nat.mul 4 m) 4096) eb) 281474976710656) (DZ h n (.c y false none) fun h' n' => κ (.sl n 0 m m false esz) h' n') (.fail "")))
    (fun p off len cap ex esz' => br (Nat.beq esz' esz) (br (Nat.beq m 0) (κ x h n) (Aa (Nat.add len m) fun need =>
      br (Nat.ble need cap)
        (Aa (Nat.add off (Nat.mul len esz)) fun j => E5 h p j y fun h' => κ (.sl p off need cap ex esz) h' n)
        (br (Nat.ble (Nat.mul (Nat.add (Nat.mul 4 need) 4096) eb) 281474976710656)
          (JV p h fun cs sup prev => Aa (Nat.mul len esz) fun l => AW cs off l fun a => OS a y fun z =>
            br ex
              (DZ h n (.c z false none) fun h' n' => κ (.sl n 0 need need false esz) h' n')
              (br sup (.fail "")
                (Aa (Nat.add off l) fun j => AW cs 0 j fun old => Ia prev h fun h => EV p h (some (.c old true none)) fun h =>
                  DZ h n (.c z false (some p)) fun h' n' => κ (.sl n 0 need need false esz) h' n')))
          (.fail "")))) (.fail ""))
theorem Qv:BR=Ez := by
  funext esz eb x m y h n κ
  rw [BR, HO, Gh, Dj]; rfl
def Fl (v:V) (h:Heap) (n:K4) (κ:KV):R :=
  Es v fun l => DZ h n (.c (.l l) false none) fun h' n' => κ (.ptr n 0) h' n'
def Dz (cs:Cs) (h:Heap) (n:K4) (κ:KV):R :=
  DZ h n (.c cs false none) fun h' n' => κ (.ptr n 0) h' n'
def Cp (u8:Bool) (len esz:Nat) (l:List V) (h:Heap) (n:K4) (κ:KV):R :=
  br u8 (Cu l (fun m c => DZ h n (.c (.b m c) false none) fun h' n' => κ (.sl n 0 len len true esz) h' n') (.fail "")) (DZ h n (.c (.l l) false none) fun h' n' => κ (.sl n 0 len len true esz) h' n')
def Au (v:V) (h:Heap) (κ:V->R):R :=
  @V.rec (fun _ => R) (fun _ => Unit) (Ax "") (AQ "") (fun p off => JV p h fun cs _ _ => F8 cs off κ) (DX "") (Ax "") (Ax "") (AQ "") (AQ "") (C4 "") (Ax "") (fun o => Tx o (fun i j m => br (Nat.ble 1 m) (XB i j κ) (.fail "")) (Ld o (fun l => UC l κ) (.fail ""))) () (fun _ _ _ _ => ()) v
def CK (m:Nat) (v:V) (h:Heap) (κ:V->R):R :=
  Md v (fun p off => JV p h fun cs _ _ => AW cs off m fun y => Ea y fun l => κ (.agg l)) (fun o => Ld o (fun l => br (Nat.ble m l.length) (κ (.agg ((l.take m).map RV.v))) (.fail "")) (.fail ""))
def CX (m:Nat) (u v:V) (h:Heap) (κ:Heap->R):R :=
  KB u fun p off => Es v fun l => GL l fun k => br (Nat.beq k m) (E5 h p off (.l l) κ) (.fail "")
def Ji (h:Heap) (p:K4) (off:Nat) (v:V) (κ:Heap->R):R :=
  Oa h p (fun cs k => XN cs off v k) κ
def Bb (u v:V) (h:Heap) (κ:Heap->R):R :=
  @V.rec (fun _ => R) (fun _ => Unit) (Ax "") (AQ "") (fun p off => @V.rec (fun _ => R) (fun _ => Unit) (fun _ _ => Ji h p off v κ) (fun _ => Ji h p off v κ) (fun _ _ => Ji h p off v κ) (fun _ _ _ _ _ _ => Ji h p off v κ) (fun _ _ => Ji h p off v κ) (fun l _ => GL l fun k => br (Nat.beq k 1) (E5 h p off (.l l) κ) (.fail "")) (fun _ => Ji h p off v κ) (fun _ => Ji h p off v κ) (fun _ _ _ => Ji h p off v κ) (Ax "") (fun o => @Ot.rec (fun _ => R) (.fail "") (fun _ => Ji h p off v κ) (AQ "") (.fail "") (fun _ _ _ => Ji h p off v κ) (fun _ _ => Ji h p off v κ) (Ji h p off v κ) (fun _ _ => Ji h p off v κ) (fun _ _ _ _ => Ji h p off v κ) (fun _ _ _ _ => Ji h p off v κ) (fun _ _ _ => Ji h p off v κ) (fun _ _ => Ji h p off v κ) (fun _ _ => Ji h p off v κ) (fun _ _ _ => Ji h p off v κ) (fun _ => Ji h p off v κ) o) () (fun _ _ _ _ => ()) v) (DX "") (Ax "") (Ax "") (AQ "") (AQ "") (C4 "") (Ax "") (AQ "") () (fun _ _ _ _ => ()) u
theorem VW (h:Heap) (p:K4) (off:Nat) (v:V) (κ:Heap->R):Ji h p off v κ=E5 h p off (.l [v]) κ := by
  rw [Gh, Ji, Ju]
  simp only [W7]; rfl
theorem U2 (u v:V) (h:Heap) (κ:Heap->R):Bb u v h κ=CX 1 u v h κ := by
  cases u with
  | ptr p off =>
    cases v with
    | agg l => rfl
    | tup l => rfl
    | oth o => cases o with
      | any => rfl
      | yl p => rfl
      | no => rfl
      | _ => exact VW _ _ _ _ _
    | _ => exact VW _ _ _ _ _
  | _ => rfl
abbrev Y0 {β:Type} (c:Bool) (t f:β):β := @Bool.rec (fun _ => β) f t c
abbrev Vd (m:Nat) (u v:V) (h:Heap) (κ:Heap->R):R := Y0 (Nat.beq m 1) (Bb u v h κ) (CX m u v h κ)
theorem TP (m:Nat) (u v:V) (h:Heap) (κ:Heap->R):Vd m u v h κ=CX m u v h κ := by
  unfold Vd
  cases hb:Nat.beq m 1 with
  | true => rw [Nat.eq_of_beq_eq_true hb]; exact U2 u v h κ
  | false => rfl
def Qb (p:K4) (h:Heap) (f:List (V×V)->List Nat->Nat->(List (V×V)->List Nat->Nat->R)->R) (κ:Heap->R):R :=
  Uo p h fun o put => @Option.rec Ob (fun _ => R) (.fail "") (fun o => @Ob.rec (fun _ => R) (C4 "") (fun es bs c => f es bs c fun es bs c => put (some (.m es bs c)) κ) (Fh "") (.fail "") (Ax "") o) o
theorem J7 (p:K4) (h:Heap) (f:List (V×V)->List Nat->Nat->(List (V×V)->List Nat->Nat->R)->R) (κ:Heap->R):Qb p h f κ=MK p h fun es bs c => f es bs c fun es bs c => EV p h (some (.m es bs c)) κ := by
  rw [Qb, O5, MK, Cg]
  simp only [AT]
def Am (v:V) (κ:V->R):R :=
  @V.rec (fun _ => R) (fun _ => Unit) (Ax "") (AQ "") (fun p off => κ v) (DX "") (Ax "") (Ax "") (AQ "") (AQ "") (fun f caps _i => κ v) (Ax "") (fun o => Ld o (fun _ => κ v) (.fail "")) () (fun _ _ _ _ => ()) v
def EL (neg:Bool) (pl:Plan) (u v:V) (κ:V->R):R :=
  LX pl u v fun r => br neg (br r (κ (.bool false)) (κ (.bool true))) (κ (.bool r))
def EN (v:V) (κ:V->R):R :=
  @V.rec (fun _ => R) (fun _ => Unit) (Ax "") (fun q => @Bool.rec (fun _ => R) (κ (.bool true)) (κ (.bool false)) q) (Ax "") (DX "") (Ax "") (Ax "") (AQ "") (AQ "") (C4 "") (Ax "") (AQ "") () (fun _ _ _ _ => ()) v
def JK (v:V) (κ:V->R):R :=
  Hh v fun k r => OC k 0 k r κ
def Rk (v:V) (κ:V->R):R :=
  Hh v fun k r => Aa (Nat.xor (Nat.sub (Mk k) 1) r) fun r => κ (.int k r)
def B2 (k:IntKind) (v:V) (κ:V->R):R :=
  Hh v fun j r => br (Nat.ble (Nat.succ r) (Hk j)) (Aa (Nat.mod r (Mk k)) fun r => κ (.int k r)) (br (Nat.ble (Mk k) (Mk j)) (Aa (Nat.mod r (Mk k)) fun r => κ (.int k r)) (Aa (Nat.sub (Mk k) (Nat.sub (Mk j) r)) fun r => κ (.int k r)))
def GW (v:V) (h:Heap) (κ:V->R):R :=
  Ec v (κ (.str 0 0)) (fun p off len cap ex esz => br (Nat.beq esz 1) (JV p h fun cs _ _ => AW cs off len fun y => @Cs.rec (fun _ => R) (fun l => Cu l (fun m c => κ (.str m c)) (.fail "")) (fun m c => κ (.str m c)) y) (.fail "")) (fun o => HY o (fun m c => κ (.str m c)) (.fail ""))
def Nd (v:V) (h:Heap) (n:K4) (κ:KV):R :=
  Bc v fun m c => DZ h n (.c (.b m c) false none) fun h' n' => κ (.sl n 0 m m false 1) h' n'
def ZC (v:V) (κ:V->R):R :=
  Bc v fun _ _ => κ v
def JC (v:V) (h:Heap) (κ:V->R):R :=
  Ei v (.fail "") (fun p _ _ _ _ _ => JV p h fun _ _ _ => κ v)
def Hz (h:Heap) (n:K4) (κ:KV):R :=
  DZ h n (.m [] [] 0) fun h' n' => κ (.map n) h' n'
def U8 (eb:Nat) (u8:Bool) (zero:List V) (u v:V) (h:Heap) (n:K4) (κ:KV):R :=
  Jj u fun a => Jj v fun b => br (Nat.ble a b) (br (Nat.ble (Nat.mul eb b) 281474976710656) (Fw u8 zero b fun y => DZ h n (.c y false none) fun h' n' => GL zero fun esz => κ (.sl n 0 a b true esz) h' n') (.fail "")) (.fail "")
def EF (o:Option V) (d:Nat) (κ:Nat->R):R :=
  @Option.rec V (fun _ => R) (κ d) (fun v => Jj v κ) o
def L4 (v:V) (lo hi:Option V) (κ:V->R):R :=
  WZ v (fun l0 l1 _ _ => br (br (Ey hi) true (Nat.beq l0 l1)) (EF hi l0 fun b => EF lo 0 fun a => br (Nat.ble a b) (br (Nat.ble b l0) (Aa (Nat.sub b a) fun l => κ (.oth (.ss l l (Nat.succ l) 0))) (.fail "")) (.fail "")) (.fail "")) <| Bc v fun m c => EF hi m fun b => EF lo 0 fun a => br (Nat.ble a b) (br (Nat.ble b m) (Aa (Nat.sub b a) fun l => Aa (Ev.lo (sh c a) l) fun r => κ (.str l r)) (.fail "")) (.fail "")
def DQ (esz:Nat) (v:V) (lo hi:Option V) (κ:V->R):R :=
  osK v (fun l0 l1 => br (br (Ey hi) true (Nat.beq l0 l1)) (EF hi l0 fun b => EF lo 0 fun a => br (Nat.ble a b) (br (Nat.ble b l0) (Aa (Nat.sub b a) fun l => κ (.oth (.os l l))) (.fail "")) (.fail "")) (.fail "")) <| Ec v (EF hi 0 fun b => EF lo 0 fun a => br (Nat.beq b 0) (br (Nat.beq a 0) (κ (.nil .sl)) (.fail "")) (.fail "")) (fun p off len cap ex esz' => EF hi len fun b => EF lo 0 fun a => br (Nat.beq esz' esz) (br (Nat.ble a b) (br (Nat.ble b cap) (Aa (Nat.sub b a) fun l => Aa (Nat.sub cap a) fun c => Aa (Nat.add off (Nat.mul a esz)) fun o => κ (.sl p o l c ex esz)) (.fail "")) (.fail "")) (.fail "")) (fun o => Kn o (fun l m z => EF hi m fun b => EF lo 0 fun a => br (Nat.beq z esz) (br (Nat.ble a b) (br (Nat.ble b m) (Aa (Nat.sub b a) fun k => Aa (Nat.mul a esz) fun j => Aa (Nat.mul k esz) fun q => κ (.oth (.rx ((l.drop j).take q) k esz))) (.fail "")) (.fail "")) (.fail "")) (HY o (fun m c => EF hi m fun b => EF lo 0 fun a => br (Nat.beq esz 1) (br (Nat.ble a b) (br (Nat.ble b m) (Aa (Nat.sub b a) fun k => Aa (Ev.lo (sh c a) k) fun r => κ (.oth (.rb k r))) (.fail "")) (.fail "")) (.fail "")) (.fail "")))
def Ho (m esz:Nat) (v:V) (lo hi:Option V) (h:Heap) (κ:V->R):R :=
  KB v fun p off => JV p h fun cs _ _ => X7 cs fun z => br (Nat.ble (Nat.add off (Nat.mul m esz)) z) (EF hi m fun b => EF lo 0 fun a => br (Nat.ble a b) (br (Nat.ble b m) (Aa (Nat.sub b a) fun l => Aa (Nat.sub m a) fun c => Aa (Nat.add off (Nat.mul a esz)) fun o => κ (.sl p o l c true esz)) (.fail "")) (.fail "")) (.fail "")
def Ak (off:Nat) (v:V) (κ:V->R):R :=
  @V.rec (fun _ => R) (fun _ => Unit) (Ax "") (AQ "") (fun p o => Aa (Nat.add o off) fun o => κ (.ptr p o)) (DX "") (Ax "") (Ax "") (AQ "") (AQ "") (C4 "") (Ax "") (fun o => Tx o (fun i j m => br (Nat.ble (Nat.succ off) m) (Aa (Nat.add j off) fun j => Aa (Nat.sub m off) fun m => κ (.oth (.ap i j m))) (.fail "")) (Ld o (fun l => br (Nat.ble (Nat.succ off) l.length) (κ (.oth (.rp (l.drop off)))) (.fail "")) (.fail ""))) () (fun _ _ _ _ => ()) v
def Zy (off size:Nat) (ag:Bool) (v:V) (κ:V->R):R :=
  asAgg v fun l => br ag (DA off l fun r => D7 size r fun r => κ (.agg r)) (DN off l κ)
def AY (esz:Nat) (v u:V) (κ:V->R):R :=
  Jj u fun a => Ec v (.fail "") (fun p off len cap ex esz' => br (Nat.beq esz' esz) (br (Nat.ble (Nat.succ a) len) (Aa (Nat.add off (Nat.mul a esz)) fun o => κ (.ptr p o)) (.fail "")) (.fail "")) (fun o => Qi o (fun i lo hi z => br (Nat.beq z esz) (br (Nat.ble (Nat.succ a) lo) (Aa (Nat.mul a esz) fun j => κ (.oth (.ap i j esz))) (.fail "")) (.fail "")) (Kn o (fun l m z => br (Nat.beq z esz) (br (Nat.ble (Nat.succ a) m) (Aa (Nat.mul a esz) fun j => κ (.oth (.rp (l.drop j)))) (.fail "")) (.fail "")) (HY o (fun m c => br (Nat.beq esz 1) (br (Nat.ble (Nat.succ a) m) (Aa (Ev.lo (sh c a) 1) fun r => κ (.oth (.rp [.i .u8 r]))) (.fail "")) (.fail "")) (.fail ""))))
def LL (m esz:Nat) (v u:V) (κ:V->R):R :=
  Jj u fun a => KB v fun p off => br (Nat.ble (Nat.succ a) m) (Aa (Nat.add off (Nat.mul a esz)) fun o => κ (.ptr p o)) (.fail "")
def Cn (v u:V) (κ:V->R):R :=
  Jj u fun a => Bc v fun m c => br (Nat.ble (Nat.succ a) m) (Aa (Ev.lo (sh c a) 1) fun r => κ (.int .u8 r)) (.fail "")
def Zx (m esz:Nat) (ag:Bool) (v u:V) (κ:V->R):R :=
  Jj u fun a => asAgg v fun l => br (Nat.ble (Nat.succ a) m) (Aa (Nat.mul a esz) fun j => br ag (DA j l fun r => D7 esz r fun r => κ (.agg r)) (DN j l κ)) (.fail "")
def KN (pl:Plan) (zero:V) (ok:Bool) (u v:V) (h:Heap) (κ:V->R):R :=
  Lf pl v <| E3 u (br ok (κ (.tup [zero, .bool false])) (κ zero)) (fun p => Rv p h fun es _ _ => F0 pl v es (fun r => br ok (κ (.tup [r, .bool true])) (κ r)) (br ok (κ (.tup [zero, .bool false])) (κ zero)))
def PN (pl:Plan) (u a b:V) (h:Heap) (κ:Heap->R):R :=
  Lf pl a <| E3 u (.fail "") (fun p => Qb p h (fun es bs c k => EP pl a b es fun es => TL es bs c fun bs c => k es bs c) κ)
def Pz (pl:Plan) (u a:V) (h:Heap) (κ:Heap->R):R :=
  Lf pl a <| E3 u (κ h) (fun p => Qb p h (fun es bs c k => HW pl a es fun es2 => HV pl a es bs fun bs => k es2 bs c) κ)
def B6 (i:Nat) (v:V) (κ:V->R):R :=
  KM v fun l => DN i l κ
def Ag (r:R) (κ:KV):R :=
  @R.rec (fun _ => R) (Fh "") (fun v h n => κ v h n) (fun w => .fail w) (Fh "") r
def GY (v:V) (κ:V->R):R :=
  WZ v (fun l0 l1 _ _ => br (Nat.ble (Nat.succ l1) 9223372036854775808) (κ (.oth (.iv .i64 l0 l1))) (.fail "")) <| Bc v fun m _ => DM m κ
def AJ (v:V) (κ:V->R):R :=
  Ec v (κ (.int .i64 0)) (fun p off len cap ex esz => DM len κ) (fun o => Yf o (fun l0 l1 => br (Nat.ble (Nat.succ l1) 9223372036854775808) (κ (.oth (.iv .i64 l0 l1))) (.fail "")) (Qi o (fun i l0 l1 z => br (Nat.ble (Nat.succ l1) 9223372036854775808) (br (Nat.beq l0 l1) (κ (.int .i64 l0)) (κ (.oth (.iv .i64 l0 l1)))) (.fail "")) (Kn o (fun l m z => DM m κ) (HY o (fun m c => DM m κ) (.fail "")))))
def Ss (v:V) (h:Heap) (κ:V->R):R :=
  E3 v (κ (.int .i64 0)) (fun p => Rv p h fun es _ _ => UP es fun m => DM m κ)
def Qc (u v:V) (κ:V->R):R := Za u v κ
def Mu (u v:V) (κ:V->R):R := Zd u v κ
def QT (u v w:V) (κ:V->R):R :=
  Hh u fun k a => Hh v fun j b => Hh w fun i c => br (AZ k j) (br (AZ k i) (br (DO k a b) (br (DO k b c) (κ w) (κ v)) (br (DO k a c) (κ w) (κ u))) (.fail "")) (.fail "")
def Aad (v:V) (κ:V->R):R :=
  Ei v (κ (.int .i64 0)) (fun p off len cap ex esz => br ex (DM cap κ) (.fail ""))
def XL (u8:Bool) (zero:List V) (v:V) (h:Heap) (κ:Heap->R):R :=
  Ei v (κ h) (fun p off len cap ex esz => GL zero fun m => br (Nat.beq m esz) (br (Nat.beq len 0) (κ h) (Fw u8 zero len fun y => E5 h p off y κ)) (.fail ""))
def C3 (esz eb:Nat) (u v:V) (h:Heap) (n:K4) (κ:KV):R :=
  H8 esz v h fun m y => BR esz eb u m y h n κ
def Ik (esz eb:Nat) (u8:Bool) (zero:List V) (u v:V) (h:Heap) (n:K4) (κ:KV):R :=
  Jj v fun m => br (Nat.ble (Nat.mul eb m) 281474976710656) (Fw u8 zero m fun y => BR esz eb u m y h n κ) (.fail "")
def Pu (esz:Nat) (u v:V) (h:Heap) (κ:V->Heap->R):R :=
  H8 esz v h fun m y => Ei u (κ (.int .i64 0) h) (fun p off len cap ex esz' => br (Nat.beq esz' esz) (Aa (@Bool.rec (fun _ => Nat) len m (Nat.ble m len)) fun k => br (Nat.beq k 0) (κ (.int .i64 0) h) (Aa (Nat.mul k esz) fun j => AW y 0 j fun y => E5 h p off y fun h => DM k fun v => κ v h)) (.fail ""))
abbrev Jb := Opd->(V->R)->R
abbrev Gz (ε:Jb) (l:List Opd):(List V->R)->R :=
  @List.rec Opd (fun _ => (List V->R)->R) (fun κ => κ []) (fun o _ ih κ => ε o fun v => ih fun vs => κ (v::vs)) l
abbrev Gt (ε:Jb) (o:Option Opd) (κ:Option V->R):R := @Option.rec Opd (fun _ => R) (κ none) (fun x => ε x fun v => κ (some v)) o
abbrev LT (ε:Jb) (l:List Part):List V->(List V->R)->R :=
  @List.rec Part (fun _ => List V->(List V->R)->R) (fun z κ => κ z) (fun p _ ih z κ => @Part.rec (fun _ => R) (fun off size x => ε x fun v => IQ off size v z fun z => ih z κ) p) l
/-- The number of a function, as digits. -/
structure K3 where
  a:D
  b:D
  c:D
def Bk (f:Nat):K3 := ⟨D.ofN (f / 256), D.ofN (f / 16 % 16), D.ofN (f % 16)⟩
abbrev Fz := K3->List V->Heap->K4->R
def NS (cf:Fz) (v:V) (l:List V) (h:Heap) (n:K4) (κ:KV):R := Qu v fun f caps => EQ l caps fun l => Ag (cf (Bk f) l h n) κ
theorem Po (n:Nat):∀ (c:Nat) (κ:Nat->Nat->R) (e:R), F6 n c (fun l => Cu l κ e)=κ n (c % 256 ^ n) := by
  induction n with
  | zero => intro c κ e; show κ 0 0=_; rw [Nat.pow_zero, Nat.mod_one]
  | succ n ih =>
    intro c κ e
    have e1:F6 (n+1) c (fun l => Cu l κ e)=Aa (lo c 1) fun r => Aa (sh c 1) fun d => F6 n d fun zs => Cu (.int .u8 r::zs) κ e := rfl
    rw [e1, A7, A7]
    have hr:lo c 1<256 := by rw [Dx]; omega
    have e2:∀ zs, Cu (.int .u8 (lo c 1)::zs) κ e=Cu zs (fun n m => Aa (Nat.succ n) fun n => Aa (Nat.add (lo c 1) (Nat.mul 256 m)) fun c => κ n c) e := fun zs => by
      have:Cu (.int .u8 (lo c 1)::zs) κ e=br (AZ .u8 .u8) (br (Nat.ble (lo c 1) 255) (Cu zs (fun n m => Aa (Nat.succ n) fun n => Aa (Nat.add (lo c 1) (Nat.mul 256 m)) fun c => κ n c) e) e) e := rfl
      rw [this, Ab.2 (show lo c 1≤255 by omega)]; rfl
    simp only [e2]
    rw [ih, A7, A7]
    have e3:Nat.add (lo c 1) (Nat.mul 256 (sh c 1 % 256 ^ n))=c % 256 ^ (n+1) := by
      rw [Dx, Ed, Nat.pow_one, Nat.pow_succ', Nat.mod_mul]; rfl
    rw [e3]
theorem VB (v:V) (h:Heap) (κ:V->R):GW v h κ=Ec v (κ (.str 0 0)) (fun p off len cap ex esz => br (Nat.beq esz 1) (Hs p h fun cs _ _ => AW cs off len fun y => Ea y fun l => Cu l (fun m c => κ (.str m c)) (.fail "")) (.fail "")) (fun o => HY o (fun m c => κ (.str m c)) (.fail "")) := by
  unfold GW
  rw [Dj]
  congr 1
  funext p off len cap ex esz
  congr 1; congr 1
  funext cs sup prev
  cases cs with
  | l xs => rfl
  | b n c =>
    show br (Nat.ble (Nat.add off len) n) (Aa (lo (sh c off) len) fun r => κ (.str len r)) (.fail "")=br (Nat.ble (Nat.add off len) n) (Aa (lo (sh c off) len) fun r => F6 len r fun l => Cu l (fun m c => κ (.str m c)) (.fail "")) (.fail "")
    rw [A7, A7, Po, Dx, Nat.mod_mod]
/-- An operation whose operands are told by ε. -/
abbrev GF (o:AK):Fz->Jb->Heap->K4->KV->R := @AK.rec (fun _ => Fz->Jb->Heap->K4->KV->R)
  (fun x cf ε h n κ => ε x fun v => κ v h n)
  (fun c a b cf ε h n κ => ε c fun q => ε a fun x => ε b fun y => AI q x y fun v => κ v h n)
  (fun cs cf ε h n κ => Dz cs h n κ)
  (fun x cf ε h n κ => ε x fun v => Fl v h n κ)
  (fun zero parts cf ε h n κ => LT ε parts zero fun l => κ (.agg l) h n)
  (fun u8 len esz zero parts cf ε h n κ => LT ε parts zero fun l => Cp u8 len esz l h n κ)
  (fun x cf ε h n κ => ε x fun v => Au v h fun v => κ v h n)
  (fun m x cf ε h n κ => ε x fun v => CK m v h fun v => κ v h n)
  (fun m a x cf ε h n κ => ε a fun u => ε x fun v => Vd m u v h fun h => κ B4 h n)
  (fun x cf ε h n κ => ε x fun v => Am v fun v => κ v h n)
  (fun op x y cf ε h n κ => ε x fun u => ε y fun v => YX op u v fun v => κ v h n)
  (fun neg pl x y cf ε h n κ => ε x fun u => ε y fun v => EL neg pl u v fun v => κ v h n)
  (fun x cf ε h n κ => ε x fun v => EN v fun v => κ v h n)
  (fun x cf ε h n κ => ε x fun v => JK v fun v => κ v h n)
  (fun x cf ε h n κ => ε x fun v => Rk v fun v => κ v h n)
  (fun k x cf ε h n κ => ε x fun v => B2 k v fun v => κ v h n)
  (fun x cf ε h n κ => ε x fun v => GW v h fun v => κ v h n)
  (fun x cf ε h n κ => ε x fun v => Nd v h n κ)
  (fun x cf ε h n κ => ε x fun v => ZC v fun v => κ v h n)
  (fun x cf ε h n κ => ε x fun v => JC v h fun v => κ v h n)
  (fun f caps cf ε h n κ => Gz ε caps fun l => κ (.fn f l) h n)
  (fun  cf ε h n κ => Hz h n κ)
  (fun eb u8 zero l c cf ε h n κ => ε l fun u => ε c fun v => U8 eb u8 zero u v h n κ)
  (fun x lo hi cf ε h n κ => ε x fun v => Gt ε lo fun a => Gt ε hi fun b => L4 v a b fun v => κ v h n)
  (fun esz x lo hi cf ε h n κ => ε x fun v => Gt ε lo fun a => Gt ε hi fun b => DQ esz v a b fun v => κ v h n)
  (fun m esz x lo hi cf ε h n κ => ε x fun v => Gt ε lo fun a => Gt ε hi fun b => Ho m esz v a b h fun v => κ v h n)
  (fun off x cf ε h n κ => ε x fun v => Ak off v fun v => κ v h n)
  (fun off size ag x cf ε h n κ => ε x fun v => Zy off size ag v fun v => κ v h n)
  (fun esz x i cf ε h n κ => ε x fun v => ε i fun u => AY esz v u fun v => κ v h n)
  (fun m esz x i cf ε h n κ => ε x fun v => ε i fun u => LL m esz v u fun v => κ v h n)
  (fun x i cf ε h n κ => ε x fun v => ε i fun u => Cn v u fun v => κ v h n)
  (fun m esz ag x i cf ε h n κ => ε x fun v => ε i fun u => Zx m esz ag v u fun v => κ v h n)
  (fun pl zero ok m k cf ε h n κ => ε m fun u => ε k fun v => KN pl zero ok u v h fun v => κ v h n)
  (fun pl m k v cf ε h n κ => ε m fun u => ε k fun a => ε v fun b => PN pl u a b h fun h => κ B4 h n)
  (fun pl m k cf ε h n κ => ε m fun u => ε k fun a => Pz pl u a h fun h => κ (.tup []) h n)
  (fun i x cf ε h n κ => ε x fun v => B6 i v fun v => κ v h n)
  (fun f args cf ε h n κ => Gz ε args fun l => Ag (cf (Bk f) l h n) κ)
  (fun x args cf ε h n κ => ε x fun v => Gz ε args fun l => NS cf v l h n κ)
  (fun x cf ε h n κ => ε x fun v => GY v fun v => κ v h n)
  (fun x cf ε h n κ => ε x fun v => AJ v fun v => κ v h n)
  (fun x cf ε h n κ => ε x fun v => Ss v h fun v => κ v h n)
  (fun x y cf ε h n κ => ε x fun u => ε y fun v => Qc u v fun v => κ v h n)
  (fun x y cf ε h n κ => ε x fun u => ε y fun v => Mu u v fun v => κ v h n)
  (fun esz eb x y cf ε h n κ => ε x fun u => ε y fun v => C3 esz eb u v h n κ)
  (fun esz eb u8 zero x c cf ε h n κ => ε x fun u => ε c fun v => Ik esz eb u8 zero u v h n κ)
  (fun esz x y cf ε h n κ => ε x fun u => ε y fun v => Pu esz u v h fun v h => κ v h n)
  (fun x y z cf ε h n κ => ε x fun u => ε y fun v => ε z fun w => QT u v w fun v => κ v h n)
  (fun x cf ε h n κ => ε x fun v => Aad v fun v => κ v h n)
  (fun u8 zero x cf ε h n κ => ε x fun v => XL u8 zero v h fun h => κ (.tup []) h n)
  (fun why cf ε h n κ => .fail "")
  o
section
variable {cf:CF} {cf2:Fz} {ε:Jb} {t:Regs} {h:Heap} {n:K4} {κ:KV}
theorem Gn {l:List Opd} {κ:List V->R} (hh:∀ x∈l, ∀ κ, ε x κ=κ (ev x t)):Gz ε l κ=κ (l.map (ev · t)) := by
  induction l generalizing κ with
  | nil => rfl
  | cons o l ih =>
    show ε o (fun v => Gz ε l fun vs => κ (v::vs))=_
    rw [hh o (List.mem_cons_self ..), ih fun x hx => hh x (List.mem_cons_of_mem _ hx)]; rfl
theorem Gf {o:Option Opd} {κ:Option V->R} (hh:∀ x∈o.toList, ∀ κ, ε x κ=κ (ev x t)):Gt ε o κ=κ (o.map (ev · t)) := by
  cases o with
  | none => rfl
  | some x => exact hh x (by simp) _
theorem PD {l:List Part}:∀ {z:List V} {κ:List V->R}, (∀ p∈l, ∀ κ, ε p.x κ=κ (ev p.x t))->LT ε l z κ=Dq l t z κ := by
  induction l with
  | nil => intro z κ _; rfl
  | cons p l ih =>
    intro z κ hh
    obtain ⟨off, size, x⟩ := p
    have e1:LT ε (⟨off, size, x⟩::l) z κ=ε x fun v => IQ off size v z fun z => LT ε l z κ := rfl
    have e2:Dq (⟨off, size, x⟩::l) t z κ=Dg off size (ev x t) z fun z => Dq l t z κ := Av x t _
    have e3:ε x (fun v => IQ off size v z fun z => LT ε l z κ)=_ := hh ⟨off, size, x⟩ (by simp) _
    rw [e1, e2, e3, Re]
    congr 1; funext z
    exact ih fun p hp => hh p (by simp [hp])
theorem QF {o:Option Opd} {d:Nat} {κ:Nat->R}:BX o t d κ=EF (o.map (ev · t)) d κ := by
  cases o with
  | none => rfl
  | some x => exact Av x t _
theorem HK {k:AK} (hh:∀ x∈k.opds, ∀ κ, ε x κ=κ (ev x t)) (hcf:∀ f, cf2 (Bk f)=cf f):GF k cf2 ε h n κ=HU k cf t h n κ := by
  cases k
  case build z ps => exact PD fun p hp => hh p.x (List.mem_map.2 ⟨p, hp, rfl⟩)
  case bslice u8 len esz z ps =>
    have e1:GF (.bslice u8 len esz z ps) cf2 ε h n κ=LT ε ps z fun l => Cp u8 len esz l h n κ := rfl
    rw [e1, PD fun p hp => hh p.x (List.mem_map.2 ⟨p, hp, rfl⟩)]
    simp only [Cp, HO]; rfl
  case mkfn f l =>
    show Gz ε l (fun l => κ (.fn f l) h n)=Pt l t fun l => κ (.fn f l) h n
    rw [Gn (l := l) (t := t) hh, FY]
  case call f l =>
    show Gz ε l (fun l => Ag (cf2 (Bk f) l h n) κ)=Pt l t fun l => Ag (cf f l h n) κ
    rw [Gn (l := l) (t := t) hh, FY, hcf]
  case calld x l =>
    have h1:∀ κ, ε x κ=κ (ev x t) := hh x (by simp [AK.opds])
    have h2:∀ y∈l, ∀ κ, ε y κ=κ (ev y t) := fun y hy => hh y (by simp [AK.opds, hy])
    show ε x (fun v => Gz ε l fun l => NS cf2 v l h n κ)=F9 x l cf t h n κ
    rw [h1, Gn h2]
    simp only [F9, Av, FY, NS, hcf]; rfl
  case slS x lo hi =>
    have h1:∀ κ, ε x κ=κ (ev x t) := hh x (by simp [AK.opds])
    have h2:∀ y∈lo.toList, ∀ κ, ε y κ=κ (ev y t) := fun y hy => hh y (by simp [AK.opds]; simp at hy; simp [hy])
    have h3:∀ y∈hi.toList, ∀ κ, ε y κ=κ (ev y t) := fun y hy => hh y (by simp [AK.opds]; simp at hy; simp [hy])
    show ε x (fun v => Gt ε lo fun a => Gt ε hi fun b => L4 v a b fun v => κ v h n)=Jc x lo hi cf t h n κ
    rw [h1, Gf h2, Gf h3]
    simp only [Jc, Av, QF]
    cases hi <;> rfl
  case slL e x lo hi =>
    have h1:∀ κ, ε x κ=κ (ev x t) := hh x (by simp [AK.opds])
    have h2:∀ y∈lo.toList, ∀ κ, ε y κ=κ (ev y t) := fun y hy => hh y (by simp [AK.opds]; simp at hy; simp [hy])
    have h3:∀ y∈hi.toList, ∀ κ, ε y κ=κ (ev y t) := fun y hy => hh y (by simp [AK.opds]; simp at hy; simp [hy])
    show ε x (fun v => Gt ε lo fun a => Gt ε hi fun b => DQ e v a b fun v => κ v h n)=Iy e x lo hi cf t h n κ
    rw [h1, Gf h2, Gf h3]
    simp only [Iy, Av, QF]
    cases hi <;> rfl
  case slA m e x lo hi =>
    have h1:∀ κ, ε x κ=κ (ev x t) := hh x (by simp [AK.opds])
    have h2:∀ y∈lo.toList, ∀ κ, ε y κ=κ (ev y t) := fun y hy => hh y (by simp [AK.opds]; simp at hy; simp [hy])
    have h3:∀ y∈hi.toList, ∀ κ, ε y κ=κ (ev y t) := fun y hy => hh y (by simp [AK.opds]; simp at hy; simp [hy])
    show ε x (fun v => Gt ε lo fun a => Gt ε hi fun b => Ho m e v a b h fun v => κ v h n)=J0 m e x lo hi cf t h n κ
    rw [h1, Gf h2, Gf h3]
    simp only [J0, Av, QF, Ho, Dj]
  case pick c a b =>
    have h1:∀ κ, ε c κ=κ (ev c t) := hh c (by simp [AK.opds])
    have h2:∀ κ, ε a κ=κ (ev a t) := hh a (by simp [AK.opds])
    have h3:∀ κ, ε b κ=κ (ev b t) := hh b (by simp [AK.opds])
    show ε c (fun q => ε a fun x => ε b fun y => AI q x y fun v => κ v h n)=In c a b cf t h n κ
    rw [h1, h2, h3, VX]
    simp only [In, Av]
  case b2s x =>
    have h1:∀ κ, ε x κ=κ (ev x t) := hh x (by simp [AK.opds])
    show ε x (fun v => GW v h fun v => κ v h n)=Kb x cf t h n κ
    rw [h1, VB]
    simp only [Kb, Av]
  case bin op x y =>
    have h1:∀ κ, ε x κ=κ (ev x t) := hh x (by simp [AK.opds])
    have h2:∀ κ, ε y κ=κ (ev y t) := hh y (by simp [AK.opds])
    show ε x (fun u => ε y fun v => YX op u v fun v => κ v h n)=LO op x y cf t h n κ
    rw [h1, h2, Kx]
    simp only [LO, Av]
  all_goals
    simp only [AK.opds, List.mem_cons, List.not_mem_nil, or_false, forall_eq_or_imp, forall_eq] at hh
    simp only [GF, HU, Dz, Fl, Au, CK, TP, CX, Cp, JC, Nd, Hz, U8, KN, PN, Pz, Ss, C3, Ik, Pu, J7, HO, Dj, Ft, Gh, Qv, WS, Pg, IR, TI, N7, Tk, D2, Tb, Nx, MV, ME, Nv, Kb, Iz, Mn, NB, J8, GQ, N8, MR, NE, NL, N9, Np, T6, SZ, Nb, Mw, N0, Nm, MJ, Nt, Nh, N5, Jp, Mr, Jm, Nw, N6, XL, RH, Av, hh]
    try rfl
end
end Go.Ev

namespace Go.Ev
set_option linter.unusedVariables false
/-- The place of a register that is kept. -/
structure SL where
  a:O8
  b:O4
def S.get (s:SL) (t:S):V := SQ.sel s.b (S.sel s.a t)
def S.put (s:SL) (t:S) (v:V):S := S.setS s.a t (SQ.setS s.b (S.sel s.a t) v)
theorem S.get_put_same (s:SL) (t:S) (v:V):S.get s (S.put s t v)=v := by
  simp only [S.get, S.put, S.sel_setS_same, SQ.sel_setS_same]
theorem S.get_put_ne {s s':SL} (t:S) (v:V) (h:s≠s'):S.get s' (S.put s t v)=S.get s' t := by
  obtain ⟨a, b⟩ := s
  obtain ⟨a', b'⟩ := s'
  simp only [S.get, S.put]
  by_cases ha:a=a'
  · subst ha
    rw [S.sel_setS_same]
    by_cases hb:b=b'
    · subst hb; exact absurd rfl h
    · rw [SQ.sel_setS_ne _ _ hb]
  · rw [S.sel_setS_ne _ _ ha]
abbrev X5 (b:O4) (κ:V->R) (x:SQ):R := @SQ.rec (fun _ => R) (fun d0 d1 d2 d3 => @O4.rec (fun _ => R) (κ d0) (κ d1) (κ d2) (κ d3) b) x
abbrev Wy (p:SL) (t:S) (κ:V->R):R := @SL.rec (fun _ => R) (fun a b => @S.rec (fun _ => R) (fun c0 c1 c2 c3 c4 c5 c6 c7 => @O8.rec (fun _ => R) (X5 b κ c0) (X5 b κ c1) (X5 b κ c2) (X5 b κ c3) (X5 b κ c4) (X5 b κ c5) (X5 b κ c6) (X5 b κ c7) a) t) p
abbrev Wa (b:O4) (v:V) (x:SQ) (k:SQ->R):R := @SQ.rec (fun _ => R) (fun d0 d1 d2 d3 => @O4.rec (fun _ => R) (k (.mk v d1 d2 d3)) (k (.mk d0 v d2 d3)) (k (.mk d0 d1 v d3)) (k (.mk d0 d1 d2 v)) b) x
abbrev Wl (p:SL) (t:S) (v:V) (k:S->R):R := @SL.rec (fun _ => R) (fun a b => @S.rec (fun _ => R) (fun c0 c1 c2 c3 c4 c5 c6 c7 => @O8.rec (fun _ => R) (Wa b v c0 fun x => k (.mk x c1 c2 c3 c4 c5 c6 c7)) (Wa b v c1 fun x => k (.mk c0 x c2 c3 c4 c5 c6 c7)) (Wa b v c2 fun x => k (.mk c0 c1 x c3 c4 c5 c6 c7)) (Wa b v c3 fun x => k (.mk c0 c1 c2 x c4 c5 c6 c7)) (Wa b v c4 fun x => k (.mk c0 c1 c2 c3 x c5 c6 c7)) (Wa b v c5 fun x => k (.mk c0 c1 c2 c3 c4 x c6 c7)) (Wa b v c6 fun x => k (.mk c0 c1 c2 c3 c4 c5 x c7)) (Wa b v c7 fun x => k (.mk c0 c1 c2 c3 c4 c5 c6 x)) a) t) p
theorem Yz (b:O4) (κ:V->R) (x:SQ):X5 b κ x=κ (SQ.sel b x) := by cases x; cases b <;> rfl
theorem Xa (p:SL) (t:S) (κ:V->R):Wy p t κ=κ (S.get p t) := by
  obtain ⟨a, b⟩ := p
  cases t
  cases a <;> exact Yz _ _ _
theorem Yu (b:O4) (v:V) (x:SQ) (k:SQ->R):Wa b v x k=k (SQ.setS b x v) := by cases x; cases b <;> rfl
theorem WP (p:SL) (t:S) (v:V) (k:S->R):Wl p t v k=k (S.put p t v) := by
  obtain ⟨a, b⟩ := p
  have e1:Wl ⟨a, b⟩ t v k=Wa b v (S.sel a t) fun x => k (S.setS a t x) := by cases t; cases a <;> rfl
  rw [e1, Yu]; rfl
/-- The registers that are kept, and where. -/
abbrev SM := List (K2×SL)
abbrev Iv (p:K2) (sm:SM) (κ:SL->R) (e:R):R :=
  @List.rec (K2×SL) (fun _ => R) e (fun x _ ih => @Prod.rec K2 SL (fun _ => R) (fun q s => Y0 (K2.beq q p) (κ s) ih) x) sm
def CB (p:K2):SM->Option SL
  | [] => none
  | x::l => br (K2.beq x.1 p) (some x.2) (CB p l)
theorem NH (p:K2) (sm:SM) (κ:SL->R) (e:R):Iv p sm κ e=match CB p sm with | some s => κ s | none => e := by
  induction sm with
  | nil => rfl
  | cons x l ih =>
    obtain ⟨q, s⟩ := x
    have e1:Iv p ((q, s)::l) κ e=Y0 (K2.beq q p) (κ s) (Iv p l κ e) := rfl
    rw [e1, ih]
    simp only [CB]
    cases K2.beq q p <;> rfl
def O8.beq (a b:O8):Bool := Nat.beq (@O8.rec (fun _ => Nat) 0 1 2 3 4 5 6 7 a) (@O8.rec (fun _ => Nat) 0 1 2 3 4 5 6 7 b)
def O4.beq (a b:O4):Bool := Nat.beq (@O4.rec (fun _ => Nat) 0 1 2 3 a) (@O4.rec (fun _ => Nat) 0 1 2 3 b)
theorem O8.beq_self (a:O8):a.beq a=true := by cases a <;> rfl
theorem O4.beq_self (a:O4):a.beq a=true := by cases a <;> rfl
def SL.beq (s s':SL):Bool := and (s.a.beq s'.a) (s.b.beq s'.b)
/-- No two registers at one place. -/
def QD:SM->Bool
  | [] => true
  | x::l => (l.all fun y => !SL.beq x.2 y.2)&&QD l
theorem HH {p:K2} {s:SL}:∀ {sm:SM}, CB p sm=some s->(p, s)∈sm
  | [], h => by cases h
  | x::l, h => by
    simp only [CB] at h
    cases hb:K2.beq x.1 p with
    | true =>
      rw [hb] at h
      have h:some x.2=some s := h
      cases h
      rw [←K2.beq_iff.1 hb]
      exact List.mem_cons_self ..
    | false => rw [hb] at h; exact List.mem_cons_of_mem _ (HH h)
theorem P8:∀ {sm:SM}, QD sm=true->∀ {p q:K2} {s:SL}, CB p sm=some s->CB q sm=some s->p=q
  | [], _, p, q, s, h, _ => by cases h
  | x::l, hok, p, q, s, hp, hq => by
    simp only [QD, Bool.and_eq_true] at hok
    have no:∀ r, (r, x.2) ∉ l := fun r hr => by
      have := List.all_eq_true.1 hok.1 _ hr
      simp [SL.beq, O8.beq_self, O4.beq_self] at this
    simp only [CB] at hp hq
    cases hbp:K2.beq x.1 p with
    | true =>
      rw [hbp] at hp
      have hp:some x.2=some s := hp
      cases hp
      cases hbq:K2.beq x.1 q with
      | true => rw [←K2.beq_iff.1 hbp, ←K2.beq_iff.1 hbq]
      | false => rw [hbq] at hq; exact absurd (HH hq) (no _)
    | false =>
      rw [hbp] at hp
      cases hbq:K2.beq x.1 q with
      | true =>
        rw [hbq] at hq
        have hq:some x.2=some s := hq
        cases hq
        exact absurd (HH hp) (no _)
      | false => rw [hbq] at hq; exact P8 hok.2 hp hq
abbrev Ren := List (K2×V)
abbrev UV (p:K2) (env:Ren) (κ:V->R) (e:R):R :=
  @List.rec (K2×V) (fun _ => R) e (fun x _ ih => @Prod.rec K2 V (fun _ => R) (fun q v => Y0 (K2.beq q p) (κ v) ih) x) env
abbrev Bf (sm:SM) (env:Ren) (t:S):Jb := fun o κ => @Opd.rec (fun _ => R) (fun p => UV p env κ (Iv p sm (fun s => Wy s t κ) (.fail ""))) (fun v => κ v) o
abbrev Dt (sm:SM) (d:Option K2) (t:S) (v:V) (κ:S->R):R :=
  @Option.rec K2 (fun _ => R) (κ t) (fun p => Iv p sm (fun s => Wl s t v κ) (κ t)) d
abbrev C2 (d:Option K2) (v:V) (env:Ren):Ren := @Option.rec K2 (fun _ => Ren) env (fun p => (p, v)::env) d
def NT (w:Bool) (v:V) (yes no:R):R :=
  @V.rec (fun _ => R) (fun _ => Unit) (fun _ _ => no) (fun b => br (Bool.rec (Bool.rec true false b) b w) yes no) (fun _ _ => no) (fun _ _ _ _ _ _ => no) (fun _ _ => no) (fun _ _ => no) (fun _ => no) (fun _ => no) (fun _ _ _ => no) (fun _ _ => no) (fun o => .fail "") () (fun _ _ _ _ => ()) v
/-- A guarded operation and what comes behind it. -/
def gd (w:Bool) (v:V) (F:KV->R) (κ:KV) (h:Heap) (n:K4):R := NT w v (F κ) (κ B4 h n)
def Km (w:Bool) (v:V) (F:(V->R)->R) (κ:V->R):R := NT w v (F κ) (κ B4)
def gd0 (w:Bool) (v:V) (F:R->R) (κ:R):R := NT w v (F κ) κ
abbrev Ip (g:Option (K2×Bool)) (ε:Jb) (F:KV->R) (κ:KV) (h:Heap) (n:K4):R :=
  @Option.rec (K2×Bool) (fun _ => R) (F κ) (fun p => @Prod.rec K2 Bool (fun _ => R) (fun r w => ε (.t r) fun v => gd w v F κ h n) p) g
abbrev L1 (g:Option (K2×Bool)) (ε:Jb) (F:(V->R)->R) (κ:V->R):R :=
  @Option.rec (K2×Bool) (fun _ => R) (F κ) (fun p => @Prod.rec K2 Bool (fun _ => R) (fun r w => ε (.t r) fun v => Km w v F κ) p) g
abbrev Qm (g:Option (K2×Bool)) (ε:Jb) (F:R->R) (κ:R):R :=
  @Option.rec (K2×Bool) (fun _ => R) (F κ) (fun p => @Prod.rec K2 Bool (fun _ => R) (fun r w => ε (.t r) fun v => gd0 w v F κ) p) g
abbrev DE (sm:SM) (cf:Fz) (l:List AOp):Ren->S->Heap->K4->(Ren->S->Heap->K4->R)->R :=
  @List.rec AOp (fun _ => Ren->S->Heap->K4->(Ren->S->Heap->K4->R)->R) (fun env t h n κ => κ env t h n)
    (fun o _ ih env t h n κ => @AOp.rec (fun _ => R) (fun d g k => Ip g (Bf sm env t) (GF k cf (Bf sm env t) h n) (fun v h n => Dt sm d t v fun t => ih (C2 d v env) t h n κ) h n) o) l
def AE (r:R) (κ:V->R):R := @R.rec (fun _ => R) (Fh "") (fun v h n => κ v) (fun w => .fail w) (Fh "") r
abbrev Gb (sm:SM) (cf:Fz) (b:K4) (i:Item) (env:Ren) (t:S) (h0 h1:Heap) (n:K4) (κ:Ren->S->Heap->Heap->K4->R):R :=
  @Item.rec (fun _ => R)
    (fun _ o => @AOp.rec (fun _ => R) (fun d g k => L1 g (Bf sm env t) (AE (GF k cf (Bf sm env t) h0 n Kt)) (fun v => Dt sm d t v fun t => κ (C2 d v env) t h0 h1 n)) o)
    (fun _ o => @AOp.rec (fun _ => R) (fun d g k => Ip g (Bf sm env t) (DY (GF k cf (Bf sm env t) h1 n R.rv)) (fun v h n => Dt sm d t v fun t => κ (C2 d v env) t h h n) h1 n) o)
    (fun _ j o => @AOp.rec (fun _ => R) (fun d g k => Ip g (Bf sm env t) (fun κ => b.at j fun r => Be r h1 fun x => Gk x (DY (GF k cf (Bf sm env t) h1 r R.rv) κ)) (fun v h _ => Dt sm d t v fun t => κ (C2 d v env) t h0 h n) h1 n) o)
    (fun _ o => @AOp.rec (fun _ => R) (fun d g k => Qm g (Bf sm env t) (fun e => Va d fun p => AE (GF k cf (Bf sm env t) h0 n Kt) fun v => Bf sm env t (.t p) fun x => Bl x v e) (κ env t h0 h1 n)) o)
    (fun j => b.at j fun r => Be r h0 fun x => Gk x (κ env t h0 h1 n))
    (fun _ j o => @AOp.rec (fun _ => R) (fun d g k => L1 g (Bf sm env t) (fun κ => b.at j fun r => Be r h1 fun x => Zc x fun ob => BN r AN (some ob) fun hx => AE (GF k cf (Bf sm env t) hx n Kt) κ) (fun v => Dt sm d t v fun t => κ (C2 d v env) t h0 h1 n)) o) i
abbrev E9 (sm:SM) (cf:Fz) (b:K4) (l:List Item):Ren->S->Heap->Heap->K4->(Ren->S->Heap->Heap->K4->R)->R :=
  @List.rec Item (fun _ => Ren->S->Heap->Heap->K4->(Ren->S->Heap->Heap->K4->R)->R) (fun env t h0 h1 n κ => κ env t h0 h1 n)
    (fun i _ ih env t h0 h1 n κ => Gb sm cf b i env t h0 h1 n fun env t h0 h1 n => ih env t h0 h1 n κ) l
def I3 (sm:SM) (p:K2):Bool := @Option.rec SL (fun _ => Bool) false (fun _ => true) (CB p sm)
def Eb (sm:SM) (dom:List K2) (p:K2):Bool := WC p dom || I3 sm p
def R9 (sm:SM) (dom:List K2) (o:AOp):Bool := o.slots.all (Eb sm dom)
def GO (d:Option K2) (dom:List K2):List K2 := match d with | none => dom | some p => p::dom
def GX (sm:SM):List AOp->List K2->Bool
  | [], _ => true
  | o::l, dom => R9 sm dom o&&GX sm l (GO o.dst dom)
def CZ:List AOp->List K2->List K2
  | [], dom => dom
  | o::l, dom => CZ l (GO o.dst dom)
def Item.op:Item->Option AOp
  | .rd _ o => some o
  | .ef _ o => some o
  | .al _ _ o => some o
  | .rn _ _ o => some o
  | _ => none
def QC (sm:SM) (dom:List K2):Item->Bool
  | .rd _ o => R9 sm dom o
  | .ef _ o => R9 sm dom o
  | .al _ _ o => R9 sm dom o
  | .rn _ _ o => R9 sm dom o
  | .ck _ o => R9 sm dom o&&match o.dst with | some p => Eb sm dom p | none => true
  | .no _ => true
def O9 (i:Item) (dom:List K2):List K2 := match i.op with | some o => GO o.dst dom | none => dom
def II (sm:SM):List Item->List K2->Bool
  | [], _ => true
  | i::l, dom => QC sm dom i&&II sm l (O9 i dom)
def Ja:List Item->List K2->List K2
  | [], dom => dom
  | i::l, dom => Ja l (O9 i dom)
section
variable {P:Program} {ρ:Env} {B N:Nat} {cf:CF} {cf2:Fz} {sm:SM}
def FX (p:K2):Ren->Option V
  | [] => none
  | x::l => br (K2.beq x.1 p) (some x.2) (FX p l)
theorem DI {p:K2} {v:V} {env:Ren}:FX p ((p, v)::env)=some v := by
  simp only [FX, K2.beq_iff.2 rfl]; rfl
theorem Gg {p q:K2} {v:V} {env:Ren} (h:p≠q):FX q ((p, v)::env)=FX q env := by
  have:K2.beq p q=false := by
    cases hb:K2.beq p q with
    | false => rfl
    | true => exact absurd (K2.beq_iff.1 hb) h
  simp only [FX, this]; rfl
theorem WG (p:K2) (env:Ren) (κ:V->R) (e:R):UV p env κ e=match FX p env with | some v => κ v | none => e := by
  induction env with
  | nil => rfl
  | cons x l ih =>
    obtain ⟨q, v⟩ := x
    have e1:UV p ((q, v)::l) κ e=Y0 (K2.beq q p) (κ v) (UV p l κ e) := rfl
    rw [e1, ih]
    by_cases h:q=p
    · subst h; rw [DI, K2.beq_iff.2 rfl]
    · rw [Gg h]
      have:K2.beq q p=false := by
        cases hb:K2.beq q p with
        | false => rfl
        | true => exact absurd (K2.beq_iff.1 hb) h
      rw [this]
/-- The full registers t, those kept t', and what the region has told. -/
structure RI (sm:SM) (dom:List K2) (env:Ren) (t:Regs) (t':S):Prop where
  inj:∀ {p q s}, CB p sm=some s->CB q sm=some s->p=q
  told:∀ p v, FX p env=some v->B8 p t=v
  dom:∀ p, p∈dom->∃ v, FX p env=some v
  keep:∀ p s, CB p sm=some s->S.get s t'=B8 p t
theorem Rb {p:K2} (h:I3 sm p=true):∃ s, CB p sm=some s := by
  unfold I3 at h
  cases hf:CB p sm with
  | none => rw [hf] at h; cases h
  | some s => exact ⟨s, rfl⟩
theorem RI.tell {dom:List K2} {env:Ren} {t:Regs} {t':S} (r:RI sm dom env t t') {p:K2} (h:Eb sm dom p=true) (κ:V->R):Bf sm env t' (.t p) κ=κ (B8 p t) := by
  have e1:Bf sm env t' (.t p) κ=UV p env κ (Iv p sm (fun s => Wy s t' κ) (.fail "")) := rfl
  rw [e1, WG, NH]
  cases hf:FX p env with
  | some v => rw [r.told p v hf]
  | none =>
    have hk:I3 sm p=true := by
      unfold Eb at h
      rw [Bool.or_eq_true] at h
      rcases h with h | h
      · obtain ⟨v, hv⟩ := r.dom p (ON.1 h); rw [hf] at hv; cases hv
      · exact h
    obtain ⟨s, hs⟩ := Rb hk
    rw [hs]
    show Wy s t' κ=_
    rw [Xa, r.keep p s hs]
theorem RI.tells {dom:List K2} {env:Ren} {t:Regs} {t':S} (r:RI sm dom env t t') {o:AOp} (h:R9 sm dom o=true):(∀ x∈o.k.opds, ∀ κ, Bf sm env t' x κ=κ (ev x t))∧(∀ p w, o.g=some (p, w)->∀ κ, Bf sm env t' (.t p) κ=κ (B8 p t)) := by
  have h := List.all_eq_true.1 h
  refine ⟨fun x hx κ => ?_, fun p w hg κ => r.tell (h p ?_) κ⟩
  · cases x with
    | c v => rfl
    | t p => exact r.tell (h p (List.mem_append_left _ (List.mem_filterMap.2 ⟨.t p, hx, rfl⟩))) κ
  · refine List.mem_append_right _ ?_
    rw [hg]; simp
theorem RI.start (hi:∀ {p q s}, CB p sm=some s->CB q sm=some s->p=q) {t:Regs} {t':S} (h:∀ p s, CB p sm=some s->S.get s t'=B8 p t):RI sm [] [] t t' :=
  ⟨hi, fun p v h => (by simp [FX] at h), fun p h => (by simp at h), h⟩
theorem RI.put {dom:List K2} {env:Ren} {t:Regs} {t':S} (r:RI sm dom env t t') (d:Option K2) (v:V) (κ:S->R) :
    ∃ t1', Dt sm d t' v κ=κ t1'∧RI sm (GO d dom) (C2 d v env) (Dy d t v) t1' := by
  cases d with
  | none => exact ⟨t', rfl, r⟩
  | some p =>
    have e1:Dt sm (some p) t' v κ=Iv p sm (fun s => Wl s t' v κ) (κ t') := rfl
    have e2:C2 (some p) v env=(p, v)::env := rfl
    have told:∀ q u, FX q ((p, v)::env)=some u->B8 q (Dy (some p) t v)=u := fun q u hq => by
      by_cases e:p=q
      · subst e; rw [DI] at hq; cases hq; exact B0 _ _ _
      · rw [Gg e] at hq
        rw [show B8 q (Dy (some p) t v)=B8 q t from BK _ _ e]; exact r.told q u hq
    have dm:∀ q, q∈GO (some p) dom->∃ u, FX q ((p, v)::env)=some u := fun q hq => by
      by_cases e:p=q
      · subst e; exact ⟨v, DI⟩
      · rw [Gg e]
        rcases List.mem_cons.1 hq with h | h
        · exact absurd h.symm e
        · exact r.dom q h
    rw [e1, NH]
    cases hk:CB p sm with
    | some s =>
      refine ⟨S.put s t' v, WP _ _ _ _, ?_⟩
      rw [e2]
      refine ⟨r.inj, told, dm, fun q s' hq => ?_⟩
      show S.get s' (S.put s t' v)=B8 q (EZ p t v)
      by_cases e:p=q
      · subst e
        rw [hk] at hq; cases hq
        rw [B0, S.get_put_same]
      · have hs:s≠s' := fun hs => e (r.inj (hs ▸ hk) hq)
        rw [BK _ _ e, S.get_put_ne _ _ hs]; exact r.keep q s' hq
    | none =>
      refine ⟨t', rfl, ?_⟩
      rw [e2]
      refine ⟨r.inj, told, dm, fun q s' hq => ?_⟩
      have e:p≠q := fun e => by subst e; rw [hk] at hq; cases hq
      show S.get s' t'=B8 q (EZ p t v)
      rw [BK _ _ e]; exact r.keep q s' hq
theorem JD {p:K2} {w:Bool} {t:Regs} {yes no:R}:NT w (B8 p t) yes no=CY (some (p, w)) t yes no := (CT p t _).symm
theorem JE {g:Option (K2×Bool)} {ε:Jb} {t:Regs} {F:KV->R} {κ:KV} {h:Heap} {n:K4} (hh:∀ p w, g=some (p, w)->∀ κ, ε (.t p) κ=κ (B8 p t)):Ip g ε F κ h n=CY g t (F κ) (κ B4 h n) := by
  cases g with
  | none => rfl
  | some pw =>
    obtain ⟨p, w⟩ := pw
    exact (hh p w rfl _).trans JD
theorem ND {g:Option (K2×Bool)} {ε:Jb} {t:Regs} {F:(V->R)->R} {κ:V->R} (hh:∀ p w, g=some (p, w)->∀ κ, ε (.t p) κ=κ (B8 p t)):L1 g ε F κ=CY g t (F κ) (κ B4) := by
  cases g with
  | none => rfl
  | some pw =>
    obtain ⟨p, w⟩ := pw
    exact (hh p w rfl _).trans JD
theorem SX {g:Option (K2×Bool)} {ε:Jb} {t:Regs} {F:R->R} {κ:R} (hh:∀ p w, g=some (p, w)->∀ κ, ε (.t p) κ=κ (B8 p t)):Qm g ε F κ=CY g t (F κ) κ := by
  cases g with
  | none => rfl
  | some pw =>
    obtain ⟨p, w⟩ := pw
    exact (hh p w rfl _).trans JD
def Q4 (cf:CF) (o:AOp) (t:Regs) (h:Heap) (n:K4) (κ:KV):R := CY o.g t (HU o.k cf t h n κ) (κ B4 h n)
theorem Qw (hρ:Bq ρ) (hcf:Eu P ρ B cf) {ops:Array Oper} {o:Oper} {ao:AOp} (hc:Kc P N ops o=some ao) {t:Regs} {h:Heap} {n:K4} {κ:KV} (hg:(Q4 cf ao t h n κ).good) :
    ∃ v h1 n1, Q4 cf ao t h n κ=κ v h1 n1 ∧ ∀ φ a w, TR ρ N φ t a->Gam ρ B h n φ w->∀ (K:Act->World->Prop) (Q:Exit->Act->World->Prop),
      (∀ φ' a' w', Fr h h1 φ φ' n n1 w w'->Gam ρ B h1 n1 φ' w'->TR ρ N φ' (Dy ao.dst t v) a'->K a' w')->Ce P ops o a w K Q := by
  obtain ⟨hd, hgd, hk⟩ := BT hc
  rcases Hl (ρ := ρ) (o := o) (show R.good (CY _ _ _ _) from hg) hgd with ⟨e1, hw⟩ | ⟨e1, hw⟩
  · have e1:Q4 cf ao t h n κ=_ := e1
    rw [e1] at hg
    have hs:CU P ρ B N o (HU ao.k cf t h n) t h n := by
      rcases hk with hk | ⟨why, hk⟩
      · exact Ly hρ hcf hk
      · rw [hk]; exact SP (cf := cf) (why := why)
    obtain ⟨v, h1, n1, e2, hstep⟩ := hs _ hg
    refine ⟨v, h1, n1, e1.trans e2, fun φ a w hT g K Q hK => ?_⟩
    unfold Ce
    rw [if_pos (hw φ a hT)]
    exact hstep φ a w hT g K Q fun φ' x w' f1 g1 r1 => hK φ' _ w' f1 g1 ((hT.mono f1.ext).puts hd r1)
  · have e1:Q4 cf ao t h n κ=_ := e1
    refine ⟨B4, h, n, e1, fun φ a w hT g K Q hK => ?_⟩
    unfold Ce
    rw [if_neg (by rw [hw φ a hT]; simp)]
    exact hK φ _ w (Fr.refl h φ n w) g (hT.puts hd Fe)
/-- A list of operations, and what comes behind it. -/
def FH (P:Program) (ops:Array Oper) (Q:Exit->Act->World->Prop) (K:Act->World->Prop):List Oper->Act->World->Prop
  | [], a, w => K a w
  | o::rest, a, w => if Region.wanted o (yielded ops a.tmps)=true then o.wp P a w (FH P ops Q K rest) Q else FH P ops Q K rest (a.put o.dst undef) w
theorem GM {ops:Array Oper} {Q:Exit->Act->World->Prop} {r:List Oper}:∀ {l:List Oper} {a:Act} {w:World}, FH P ops Q (wpList P ops Q r) l a w->wpList P ops Q (l++r) a w
  | [], _, _, h => h
  | o::l, a, w, h => by
    show wpList P ops Q (o::(l++r)) a w
    simp only [wpList]
    unfold FH at h
    split
    · rw [if_pos (by assumption)] at h
      refine .inl ?_
      exact Oper.wp_mono (fun a w h => GM h) h
    · rw [if_neg (by assumption)] at h; exact GM h
theorem DP (hρ:Bq ρ) (hcf:Eu P ρ B cf) (h2:∀ f, cf2 (Bk f)=cf f) {ops:Array Oper}:∀ {l:List Oper} {al:List AOp} {dom:List K2} {env:Ren} {t:Regs} {t':S} {h:Heap} {n:K4} {κ:Ren->S->Heap->K4->R},
    HX P N ops l=some al->GX sm al dom=true->RI sm dom env t t'->(DE sm cf2 al env t' h n κ).good →
    ∃ env1 t1 t1' h1 n1, DE sm cf2 al env t' h n κ=κ env1 t1' h1 n1∧RI sm (CZ al dom) env1 t1 t1' ∧ ∀ φ a w, TR ρ N φ t a->Gam ρ B h n φ w->∀ (Q:Exit->Act->World->Prop) (K:Act->World->Prop),
      (∀ φ' a' w', Fr h h1 φ φ' n n1 w w'->Gam ρ B h1 n1 φ' w'->TR ρ N φ' t1 a'->K a' w')->FH P ops Q K l a w
  | [], al, dom, env, t, t', h, n, κ, hc, hok, ri, hg => by
    simp only [HX, Option.some.injEq] at hc; subst hc
    exact ⟨env, t, t', h, n, rfl, ri, fun φ a w hT g Q K hQ => hQ φ a w (Fr.refl h φ n w) g hT⟩
  | o::l, al, dom, env, t, t', h, n, κ, hc, hok, ri, hg => by
    simp only [HX] at hc
    split at hc
    · rename_i ao al' ho hl
      cases hc
      simp only [GX, Bool.and_eq_true] at hok
      have ht := ri.tells hok.1
      have e0:DE sm cf2 (ao::al') env t' h n κ=Ip ao.g (Bf sm env t') (GF ao.k cf2 (Bf sm env t') h n) (fun v h n => Dt sm ao.dst t' v fun t => DE sm cf2 al' (C2 ao.dst v env) t h n κ) h n := by cases ao; rfl
      have e1:DE sm cf2 (ao::al') env t' h n κ=Q4 cf ao t h n (fun v h n => Dt sm ao.dst t' v fun t => DE sm cf2 al' (C2 ao.dst v env) t h n κ) := by
        rw [e0, JE ht.2, HK ht.1 h2]; rfl
      rw [e1] at hg ⊢
      obtain ⟨v, h1, n1, e2, H1⟩ := Qw (B := B) hρ hcf ho hg
      rw [e2] at hg ⊢
      obtain ⟨t1', e3, ri1⟩ := ri.put ao.dst v (fun t => DE sm cf2 al' (C2 ao.dst v env) t h1 n1 κ)
      rw [e3] at hg ⊢
      obtain ⟨env2, t2, t2', hh2, n2, e4, ri2, H2⟩ := DP hρ hcf h2 hl hok.2 ri1 hg
      refine ⟨env2, t2, t2', hh2, n2, e4, ri2, fun φ a w hT g Q K hQ => ?_⟩
      have := H1 φ a w hT g (FH P ops Q K l) Q fun φ' a' w' f1 g1 T1 => H2 φ' a' w' T1 g1 Q K fun φ2 a2 w2 f2 g2 T2 => hQ φ2 a2 w2 (Fr.trans f1 f2) g2 T2
      exact this
    · cases hc
theorem QR (hρ:Bq ρ) (hcf:Eu P ρ B cf) (h2:∀ f, cf2 (Bk f)=cf f) {ops:Array Oper} {l:List Oper} {al:List AOp} {dom:List K2} {env:Ren} {t:Regs} {t':S} {h:Heap} {n:K4} {κ:Ren->S->Heap->K4->R}
    (hc:HX P N ops l=some al) (hok:GX sm al dom=true) (ri:RI sm dom env t t') (hg:(DE sm cf2 al env t' h n κ).good) :
    ∃ env1 t1 t1' h1 n1, DE sm cf2 al env t' h n κ=κ env1 t1' h1 n1∧RI sm (CZ al dom) env1 t1 t1' ∧ ∀ φ a w, TR ρ N φ t a->Gam ρ B h n φ w->∀ (Q:Exit->Act->World->Prop),
      (∀ φ' a' w', Fr h h1 φ φ' n n1 w w'->Gam ρ B h1 n1 φ' w'->TR ρ N φ' t1 a'->Q .normal a' w')->wpList P ops Q l a w := by
  obtain ⟨env1, t1, t1', h1, n1, e1, ri1, H⟩ := DP hρ hcf h2 hc hok ri hg
  exact ⟨env1, t1, t1', h1, n1, e1, ri1, fun φ a w hT g Q hQ => by have := GM (r := []) (H φ a w hT g Q (wpList P ops Q []) hQ); rwa [List.append_nil] at this⟩
theorem Lo {r:R} {κ:V->R} (hg:(AE r κ).good):∃ v h n, r = .rv v h n∧AE r κ=κ v := by
  cases r with
  | ok e t h n => exact hg.elim
  | rv v h n => exact ⟨v, h, n, rfl, rfl⟩
  | fail w => exact hg.elim
  | both a b => exact hg.elim
theorem Q2 (h2:∀ f, cf2 (Bk f)=cf f) {b:K4} {i:Item} {dom:List K2} {env:Ren} {s:St} {t':S} {κ:Ren->S->Heap->Heap->K4->R} (hok:QC sm dom i=true) (ri:RI sm dom env s.t t') (hg:(Gb sm cf2 b i env t' s.h0 s.h1 s.n κ).good) :
    ∃ s' env1 t1', Jg cf b i s s'∧RI sm (O9 i dom) env1 s'.t t1'∧Gb sm cf2 b i env t' s.h0 s.h1 s.n κ=κ env1 t1' s'.h0 s'.h1 s'.n := by
  obtain ⟨t, h0, h1, n⟩ := s
  cases i with
  | rd i o =>
    have ht := ri.tells hok
    have e0:Gb sm cf2 b (.rd i o) env t' h0 h1 n κ=L1 o.g (Bf sm env t') (AE (GF o.k cf2 (Bf sm env t') h0 n Kt)) (fun v => Dt sm o.dst t' v fun t => κ (C2 o.dst v env) t h0 h1 n) := by cases o; rfl
    simp only [e0] at hg ⊢
    rw [ND ht.2, HK ht.1 h2] at hg ⊢
    rcases Fk hg with hy | hn
    · rw [hy] at hg
      obtain ⟨v, h, n', e1, e2⟩ := Lo hg
      obtain ⟨t1', e3, ri1⟩ := ri.put o.dst v (fun t => κ (C2 o.dst v env) t h0 h1 n)
      exact ⟨_, _, _, .inl ⟨hy, v, h, n', e1, rfl⟩, ri1, by rw [hy, e2, e3]⟩
    · obtain ⟨t1', e3, ri1⟩ := ri.put o.dst B4 (fun t => κ (C2 o.dst B4 env) t h0 h1 n)
      exact ⟨_, _, _, .inr ⟨hn, rfl⟩, ri1, by rw [hn, e3]⟩
  | ef i o =>
    have ht := ri.tells hok
    have e0:Gb sm cf2 b (.ef i o) env t' h0 h1 n κ=Ip o.g (Bf sm env t') (DY (GF o.k cf2 (Bf sm env t') h1 n R.rv)) (fun v h n => Dt sm o.dst t' v fun t => κ (C2 o.dst v env) t h h n) h1 n := by cases o; rfl
    simp only [e0] at hg ⊢
    rw [JE ht.2, HK ht.1 h2] at hg ⊢
    rcases Fk hg with hy | hn
    · rw [hy] at hg
      obtain ⟨v, h, n', e1, e2⟩ := Pd hg
      obtain ⟨t1', e3, ri1⟩ := ri.put o.dst v (fun t => κ (C2 o.dst v env) t h h n')
      exact ⟨_, _, _, .inl ⟨hy, v, h, n', e1, rfl⟩, ri1, by rw [hy, e2, e3]⟩
    · obtain ⟨t1', e3, ri1⟩ := ri.put o.dst B4 (fun t => κ (C2 o.dst B4 env) t h1 h1 n)
      exact ⟨_, _, _, .inr ⟨hn, rfl⟩, ri1, by rw [hn, e3]⟩
  | al i j o =>
    have ht := ri.tells hok
    have e0:Gb sm cf2 b (.al i j o) env t' h0 h1 n κ=Ip o.g (Bf sm env t') (fun κ => Gk (A9 (EA b j) h1) (DY (GF o.k cf2 (Bf sm env t') h1 (EA b j) R.rv) κ)) (fun v h _ => Dt sm o.dst t' v fun t => κ (C2 o.dst v env) t h0 h n) h1 n := by
      have:∀ κ:KV, (b.at j fun r => Be r h1 fun x => Gk x (DY (GF o.k cf2 (Bf sm env t') h1 r R.rv) κ))=Gk (A9 (EA b j) h1) (DY (GF o.k cf2 (Bf sm env t') h1 (EA b j) R.rv) κ) := fun κ => by
        rw [K4.at_eq, Bi]; rfl
      cases o
      simp only [←this]
    simp only [e0] at hg ⊢
    rw [JE ht.2, HK ht.1 h2] at hg ⊢
    rcases Fk hg with hy | hn
    · rw [hy] at hg
      obtain ⟨h3, e3⟩ := LC hg
      rw [e3] at hg
      obtain ⟨v, h, n', e1, e2⟩ := Pd hg
      obtain ⟨t1', e4, ri1⟩ := ri.put o.dst v (fun t => κ (C2 o.dst v env) t h0 h n)
      exact ⟨_, _, _, .inl ⟨hy, h3, v, h, n', e1, rfl⟩, ri1, by rw [hy, e3, e2, e4]⟩
    · obtain ⟨t1', e3, ri1⟩ := ri.put o.dst B4 (fun t => κ (C2 o.dst B4 env) t h0 h1 n)
      exact ⟨_, _, _, .inr ⟨hn, rfl⟩, ri1, by rw [hn, e3]⟩
  | ck i o =>
    simp only [QC, Bool.and_eq_true] at hok
    have ht := ri.tells hok.1
    have e0:Gb sm cf2 b (.ck i o) env t' h0 h1 n κ=Qm o.g (Bf sm env t') (fun e => Va o.dst fun p => AE (GF o.k cf2 (Bf sm env t') h0 n Kt) fun v => Bf sm env t' (.t p) fun x => Bl x v e) (κ env t' h0 h1 n) := by cases o; rfl
    simp only [e0] at hg ⊢
    rw [SX ht.2, HK ht.1 h2] at hg ⊢
    rcases Fk hg with hy | hn
    · rw [hy] at hg
      cases hd:o.dst with
      | none => rw [hd] at hg; exact hg.elim
      | some p =>
        have hkn:Eb sm dom p=true := by have := hok.2; rw [hd] at this; exact this
        rw [hd] at hg
        have e5:(Va (some p) fun p => AE (HU o.k cf t h0 n Kt) fun v => Bf sm env t' (.t p) fun x => Bl x v (κ env t' h0 h1 n))=AE (HU o.k cf t h0 n Kt) fun v => Bl (B8 p t) v (κ env t' h0 h1 n) := by
          show AE _ (fun v => Bf sm env t' (.t p) fun x => Bl x v (κ env t' h0 h1 n))=_
          congr 1; funext v
          exact ri.tell hkn _
        rw [e5] at hg
        obtain ⟨v, h, n', e1, e2⟩ := Lo hg
        rw [e2] at hg
        obtain ⟨e3, e4⟩ := El hg
        exact ⟨_, env, t', ⟨rfl, .inl ⟨hy, p, h, n', hd, by show HU o.k cf t h0 n Kt = .rv (B8 p t) h n'; rw [e3]; exact e1⟩⟩, ri, by rw [hy]; exact e5.trans (e2.trans e4)⟩
    · exact ⟨_, env, t', ⟨rfl, .inr hn⟩, ri, by rw [hn]⟩
  | no j =>
    have e0:Gb sm cf2 b (.no j) env t' h0 h1 n κ=Gk (A9 (EA b j) h0) (κ env t' h0 h1 n) := by
      show b.at j (fun r => Be r h0 _)=_
      rw [K4.at_eq, Bi]; rfl
    simp only [e0] at hg ⊢
    obtain ⟨h3, e3⟩ := LC hg
    exact ⟨_, env, t', ⟨rfl, h3⟩, ri, e3⟩
  | rn i j o =>
    have ht := ri.tells hok
    have e0:Gb sm cf2 b (.rn i j o) env t' h0 h1 n κ=L1 o.g (Bf sm env t') (fun κ => Zc (A9 (EA b j) h1) fun ob => AE (GF o.k cf2 (Bf sm env t') (Ae (EA b j) AN (some ob)) n Kt) κ) (fun v => Dt sm o.dst t' v fun t => κ (C2 o.dst v env) t h0 h1 n) := by
      have:∀ κ:V->R, (b.at j fun r => Be r h1 fun x => Zc x fun ob => BN r AN (some ob) fun hx => AE (GF o.k cf2 (Bf sm env t') hx n Kt) κ)=Zc (A9 (EA b j) h1) fun ob => AE (GF o.k cf2 (Bf sm env t') (Ae (EA b j) AN (some ob)) n Kt) κ := fun κ => by
        simp only [K4.at_eq, Bi, BP, AT]; rfl
      cases o
      simp only [←this]
    simp only [e0] at hg ⊢
    simp only [HK ht.1 h2] at hg ⊢
    rw [ND ht.2] at hg ⊢
    rcases Fk hg with hy | hn
    · rw [hy] at hg
      obtain ⟨ob, h3, e3⟩ := W4 hg
      rw [e3] at hg
      obtain ⟨v, h, n', e1, e2⟩ := Lo hg
      obtain ⟨t1', e4, ri1⟩ := ri.put o.dst v (fun t => κ (C2 o.dst v env) t h0 h1 n)
      exact ⟨_, _, _, .inl ⟨hy, ob, v, h, n', h3, e1, rfl⟩, ri1, by rw [hy, e3, e2, e4]⟩
    · obtain ⟨t1', e3, ri1⟩ := ri.put o.dst B4 (fun t => κ (C2 o.dst B4 env) t h0 h1 n)
      exact ⟨_, _, _, .inr ⟨hn, rfl⟩, ri1, by rw [hn, e3]⟩
theorem Je (h2:∀ f, cf2 (Bk f)=cf f) {b:K4}:∀ {l:List Item} {dom:List K2} {env:Ren} {s:St} {t':S} {κ:Ren->S->Heap->Heap->K4->R}, II sm l dom=true->RI sm dom env s.t t'->(E9 sm cf2 b l env t' s.h0 s.h1 s.n κ).good →
    ∃ (st:Nat->St) (env1:Ren) (t1':S), st 0=s∧(∀ i x, l[i]? = some x->Jg cf b x (st i) (st (i+1)))∧RI sm (Ja l dom) env1 (st l.length).t t1'∧E9 sm cf2 b l env t' s.h0 s.h1 s.n κ=κ env1 t1' (st l.length).h0 (st l.length).h1 (st l.length).n
  | [], dom, env, s, t', κ, hok, ri, hg => ⟨fun _ => s, env, t', rfl, fun i x hx => by simp at hx, ri, rfl⟩
  | x::l, dom, env, s, t', κ, hok, ri, hg => by
    simp only [II, Bool.and_eq_true] at hok
    have e0:E9 sm cf2 b (x::l) env t' s.h0 s.h1 s.n κ=Gb sm cf2 b x env t' s.h0 s.h1 s.n fun env t h0 h1 n => E9 sm cf2 b l env t h0 h1 n κ := rfl
    rw [e0] at hg
    obtain ⟨s', env1, t1', hs, ri1, e1⟩ := Q2 h2 hok.1 ri hg
    rw [e1] at hg
    obtain ⟨st, env2, t2', h1, h3, ri2, h4⟩ := Je h2 hok.2 ri1 hg
    refine ⟨fun i => match i with | 0 => s | i+1 => st i, env2, t2', rfl, fun i y hy => ?_, ri2, ?_⟩
    · cases i with
      | zero => simp at hy; subst hy; show Jg cf b x s (st 0); rw [h1]; exact hs
      | succ i => exact h3 i y (by simpa using hy)
    · rw [e0, e1, h4]; rfl
end
end Go.Ev

namespace Go.Ev
open Go.ChangeMaps (setBlock)
set_option linter.unusedVariables false
/-- All that it may come to is Eb, and meets a condition. -/
def R.sat (Φ:R->Prop):R->Prop
  | .fail _ => False
  | .both a b => a.sat Φ∧b.sat Φ
  | .ok e t h n => Φ (.ok e t h n)
  | .rv v h n => Φ (.rv v h n)
theorem R.sat_good {Φ:R->Prop} {r:R} (h:r.sat Φ):r.good := by cases r <;> first | exact h.elim | trivial
theorem R.sat_mono {Φ Ψ:R->Prop} (H:∀ r, Φ r->Ψ r):∀ {r:R}, r.sat Φ->r.sat Ψ
  | .fail _, h => h.elim
  | .both a b, h => ⟨R.sat_mono H h.1, R.sat_mono H h.2⟩
  | .ok _ _ _ _, h => H _ h
  | .rv _ _ _, h => H _ h
def WX (q:K4) (h:Heap) (κ0:R) (κ:K4->Nat->List Nat->Nat->R):R :=
  Be q h fun o => @Option.rec Ob (fun _ => R) (.fail "") (fun o => @Ob.rec (fun _ => R) (C4 "") (C4 "") κ κ0 (Ax "") o) o
def UW (v:V) (h:Heap) (n:K4) (κ:KV):R :=
  E3 v (DZ h n .it0 fun h' n' => κ (.ptr n 0) h' n') (fun p => Rv p h fun _ _ c => DZ h n (.it p c [] c) fun h' n' => κ (.ptr n 0) h' n')
def Gr (s:Nat) (es:List (V×V)):List Nat->(V->V->R)->R :=
  @List.rec (V×V) (fun _ => List Nat->(V->V->R)->R) (Ax "")
    (fun e _ ih bs κ => @List.rec Nat (fun _ => R) (.fail "") (fun b tl _ => br (Nat.beq b s) (@Prod.rec V V (fun _ => R) κ e) (ih tl κ)) bs) es
def Pn (v:V) (h:Heap) (n:K4) (κ:KV):R :=
  KB v fun q off => br (Nat.beq off 0) (WX q h (.fail "") fun p since seen c => Rv p h fun es bs clk => br (Nat.beq clk c)
    (@List.rec Nat (fun _ => R) (.fail "") (fun s _ _ => Gr s es bs fun k x => κ (.tup [k, x]) h n) seen) (.fail "")) (.fail "")
/-- Are all stamps elder? -/
def If (since:Nat) (bs:List Nat):Bool := @List.rec Nat (fun _ => Bool) true (fun b _ ih => br (Nat.ble (Nat.succ b) since) ih false) bs
def Gl (b:Nat) (l:List Nat):Bool := @List.rec Nat (fun _ => Bool) false (fun x _ ih => br (Nat.beq x b) true ih) l
def Q7 (q p:K4) (since:Nat) (seen:List Nat) (clk:Nat) (h:Heap) (n:K4) (κ:KV) (e:V×V) (b:Nat):R :=
  BN q h (some (.it p since (b::seen) clk)) fun h' => @Prod.rec V V (fun _ => R) (fun k x => κ (.tup [.bool true, k, x]) h' n) e
def Ga (seen:List Nat) (leaf:V×V->Nat->R) (es:List (V×V)):List Nat->R->R :=
  @List.rec (V×V) (fun _ => List Nat->R->R) (fun _ acc => acc)
    (fun e _ ih bs acc => @List.rec Nat (fun _ => R) (.fail "") (fun b tl _ => br (Gl b seen) (ih tl acc) (ih tl (.both acc (leaf e b)))) bs) es
def GE (seen:List Nat) (leaf:V×V->Nat->R) (es:List (V×V)):List Nat->R->R :=
  @List.rec (V×V) (fun _ => List Nat->R->R) (fun _ none => none)
    (fun e es ih bs none => @List.rec Nat (fun _ => R) (.fail "") (fun b tl _ => br (Gl b seen) (ih tl none) (Ga seen leaf es tl (leaf e b))) bs) es
def VK (v:V) (h:Heap) (n:K4) (κ:KV):R :=
  KB v fun q off => br (Nat.beq off 0) (WX q h (κ (.tup [.bool false]) h n) fun p since seen c => Rv p h fun es bs clk => br (If since bs) (br (Nat.ble since c)
    (GE seen (Q7 q p since seen clk h n κ) es bs (κ (.tup [.bool false]) h n)) (.fail "")) (.fail "")) (.fail "")
section
variable {P:Program} {ρ:Env} {B N:Nat} {o:Oper} {t:Regs} {h:Heap} {n:K4}
theorem PB {q:K4} {κ0:R} {κ:K4->Nat->List Nat->Nat->R} (hg:(WX q h κ0 κ).good) :
    (A9 q h=some .it0∧WX q h κ0 κ=κ0) ∨ ∃ p s l c, A9 q h=some (.it p s l c)∧WX q h κ0 κ=κ p s l c := by
  have e:WX q h κ0 κ=@Option.rec Ob (fun _ => R) (.fail "") (fun o => @Ob.rec (fun _ => R) (C4 "") (C4 "") κ κ0 (Ax "") o) (A9 q h) := Bi _ _ _
  rw [e] at hg
  cases hx:A9 q h with
  | none => rw [hx] at hg; exact hg.elim
  | some ob =>
    rw [hx] at hg e
    cases ob with
    | c _ _ _ => exact hg.elim
    | m _ _ _ => exact hg.elim
    | it p s l c => exact .inr ⟨p, s, l, c, rfl, e⟩
    | it0 => exact .inl ⟨rfl, e⟩
    | lp _ _ => exact hg.elim
/-- One step of a range. -/
def UX (P:Program) (ρ:Env) (B N:Nat) (o:Oper) (t:Regs) (h:Heap) (n:K4) (f:KV->R):Prop :=
  ∀ (κ:KV) (Φ:R->Prop), (f κ).sat Φ->∀ (φ:AO) (a:Act) (w:World), TR ρ N φ t a->Gam ρ B h n φ w->∀ (K:Act->World->Prop) (Q:Exit->Act->World->Prop),
    (∀ v h1 n1, (κ v h1 n1).sat Φ->∀ φ' x w', Fr h h1 φ φ' n n1 w w'->Gam ρ B h1 n1 φ' w'->Ap ρ φ' v x->K (a.put o.dst x) w')->o.wp P a w K Q
theorem CU.sp {f:KV->R} (H:CU P ρ B N o f t h n):UX P ρ B N o t h n f := fun κ Φ hs φ a w hT g K Q hK => by
  obtain ⟨v, h1, n1, e, st⟩ := H κ (R.sat_good hs)
  rw [e] at hs
  exact st φ a w hT g K Q fun φ' x w' f1 g1 r1 => hK v h1 n1 hs φ' x w' f1 g1 r1
theorem Tt {ty kt e:TypeId} {x:Operand} {x':Opd} (ho:o.op = .range ty x) (hx:AB N x=some x') (ht:P.underlying ty=some (.map kt e)):CU P ρ B N o (UW (ev x' t) h n) t h n := by
  intro κ hg
  unfold UW at hg ⊢
  rw [HO, Ft] at hg ⊢
  rcases DL hg with ⟨hv, e1⟩ | ⟨p, hv, e1⟩
  · rw [e1] at hg
    obtain ⟨n', hn, e2⟩ := Bh hg
    refine ⟨_, _, _, e1.trans e2, .value fun φ a w hT g => ?_⟩
    have g1 := Ad hx hT
    rw [hv] at g1
    have gx := C5 g1
    refine ⟨_, .pointer (some ⟨w.heap.size, 0, none⟩), w.alloc (.mapIter none 0 #[] 0), ?_, Fr.alloc g.at_n (by omega) (Nat.le_refl _) (by omega) _ _ 0, g.alloc g.at_n (by omega) (by omega) .it0 rfl _ 0 fun φ' hle w' hw' => ⟨rfl, hw'⟩, De⟩
    simp [execOp, ho, gx, Cd, Instr.range, run_underlying ht, run_newObj]
  · rw [e1] at hg
    obtain ⟨es, bs, c, hpm, e2⟩ := EH hg
    rw [e2] at hg
    obtain ⟨n', hn, e3⟩ := Bh hg
    refine ⟨_, _, _, e1.trans (e2.trans e3), .value fun φ a w hT g => ?_⟩
    have g1 := Ad hx hT
    rw [hv] at g1
    obtain ⟨b, s, tot, hφ, gx⟩ := FJ g1
    obtain ⟨ents, k1, k2, k3⟩ := g.obj p _ b s tot hpm hφ
    have hgo:(getObj b).run P w = .ok (.map ents c) w := by simp [getObj, Sem.run, k1]
    refine ⟨_, .pointer (some ⟨w.heap.size, 0, none⟩), w.alloc (.mapIter (some b) c #[] c), ?_, Fr.alloc g.at_n (by omega) (Nat.le_refl _) (by omega) _ _ 0, g.alloc g.at_n (by omega) (by omega) (.it p c [] c) rfl _ 0 fun φ' hle w' hw' => ⟨b, s, tot, hle _ _ hφ, rfl, hw'⟩, De⟩
    simp only [execOp, ho, gx, Instr.range, Sem.run_bind, run_underlying ht, Result.andThen_ok, hgo]
    simp [run_newObj]
theorem L9 {s:Nat}:∀ {es:List (V×V)} {bs:List Nat} {κ:V->V->R}, (Gr s es bs κ).good->∃ (i:Nat) (e:V×V), es[i]? = some e∧bs[i]? = some s∧(∀ j, j<i->bs[j]? ≠ some s)∧Gr s es bs κ=κ e.1 e.2
  | [], bs, κ, h => h.elim
  | (k, x)::es, [], κ, h => h.elim
  | (k, x)::es, b::bs, κ, h => by
    have h:R.good (br (Nat.beq b s) (κ k x) (Gr s es bs κ)) := h
    cases hb:Nat.beq b s with
    | true =>
      refine ⟨0, (k, x), rfl, by rw [Nat.eq_of_beq_eq_true hb]; rfl, fun j hj => by omega, ?_⟩
      show br (Nat.beq b s) (κ k x) (Gr s es bs κ)=_
      rw [hb]; rfl
    | false =>
      rw [hb] at h
      obtain ⟨i, e, h1, h2, h3, h4⟩ := L9 (show R.good (Gr s es bs κ) from h)
      refine ⟨i+1, e, by simpa using h1, by simpa using h2, fun j hj => ?_, ?_⟩
      · cases j with
        | zero => intro e; simp at e; subst e; simp at hb
        | succ j => simpa using h3 j (by omega)
      · show br (Nat.beq b s) (κ k x) (Gr s es bs κ)=_
        rw [hb]; exact h4
theorem Wu {l:List MapEntry} {s:Nat}:∀ {i:Nat} {m:MapEntry}, l[i]? = some m->m.born=s->(∀ j, j<i->(l.map (·.born))[j]? ≠ some s)->l.find? (·.born == s)=some m := by
  induction l with
  | nil => intro i m h; simp at h
  | cons x l ih =>
    intro i m h hm hj
    cases i with
    | zero => simp at h; subst h; simp [hm]
    | succ i =>
      have h0 := hj 0 (by omega)
      simp at h0
      rw [List.find?_cons]
      have:(x.born == s)=false := by simpa using h0
      rw [this]
      exact ih (by simpa using h) hm fun j hj' => by have := hj (j+1) (by omega); simpa using this
theorem Td {x:Operand} {x':Opd} (ho:o.op = .entry x) (hx:AB N x=some x'):CU P ρ B N o (Pn (ev x' t) h n) t h n := by
  intro κ hg
  unfold Pn at hg ⊢
  rw [Ft] at hg ⊢
  obtain ⟨q, off, hv, e1⟩ := DD hg
  rw [e1] at hg
  obtain ⟨h0, e2⟩ := Af hg
  rw [e2] at hg
  have h0 := Nat.eq_of_beq_eq_true h0
  subst h0
  rcases PB hg with ⟨hq, e3⟩ | ⟨p, since, seen, c, hq, e3⟩
  · rw [e3] at hg; exact hg.elim
  rw [e3] at hg
  obtain ⟨es, bs, clk, hp, e4⟩ := EH hg
  rw [e4] at hg
  obtain ⟨h5, e5⟩ := Af hg
  rw [e5] at hg
  have h5 := Nat.eq_of_beq_eq_true h5
  subst h5
  cases seen with
  | nil => exact hg.elim
  | cons s seen =>
    obtain ⟨i, ee, k1, k2, k3, e6⟩ := L9 (show R.good (Gr s es bs fun k x => κ (.tup [k, x]) h n) from hg)
    refine ⟨_, h, n, e1.trans (e2.trans (e3.trans (e4.trans (e5.trans e6)))), .pure fun φ a w hT g => ?_⟩
    have g1 := Ad hx hT
    rw [hv] at g1
    obtain ⟨b, sq, tot, hφ, gx⟩ := D4 g1
    have := g.obj q _ b sq tot hq hφ
    obtain ⟨bm, sm, tm, hφm, hs0, hit⟩ := this
    subst hs0
    obtain ⟨ents, m1, m2, m3⟩ := g.obj p _ bm sm tm hp hφm
    obtain ⟨mm, hmm, hk, hvv⟩ := KL m2 k1
    have hborn:mm.born=s := by
      have:(ents.toList.map (·.born))[i]? = some s := by rw [m3]; exact k2
      rw [List.getElem?_map, hmm] at this
      simpa using this
    have hf:ents.find? (·.born == s)=some mm := by
      rw [←Array.find?_toList]
      exact Wu hmm hborn fun j hj => by rw [m3]; exact k3 j hj
    have hgo1:(getObj b).run P w = .ok (.mapIter (some bm) since (s::seen).reverse.toArray clk) w := by simp [getObj, Sem.run, hit]
    have hgo2:(getObj bm).run P w = .ok (.map ents clk) w := by simp [getObj, Sem.run, m1]
    have hback:(s::seen).reverse.toArray.back? = some s := by simp
    refine ⟨.tuple #[mm.key, mm.val], ?_, by simp only [Ap, BL]; exact ⟨_, rfl, _, _, rfl, hk, _, _, rfl, hvv, rfl⟩⟩
    simp only [execOp, ho, gx, Instr.entry, Nat.zero_add, Sem.run_bind, hgo1, Result.andThen_ok, hback, hgo2]
    simp [hf]
theorem Sk (b:Nat):∀ l:List Nat, Gl b l=l.contains b
  | [] => rfl
  | x::l => by
    show br (Nat.beq x b) true (Gl b l)=_
    rw [Sk b l, List.contains_cons]
    cases hb:Nat.beq x b with
    | true => rw [Nat.eq_of_beq_eq_true hb]; simp [br]
    | false =>
      have:(b == x)=false := by
        cases h:b == x with
        | false => rfl
        | true => have := eq_of_beq h; subst this; rw [Nat.beq_refl] at hb; cases hb
      rw [this]; rfl
theorem Nu {since:Nat}:∀ {bs:List Nat}, If since bs=true->∀ b∈bs, b<since
  | [], _, b, hb => by simp at hb
  | x::bs, h, b, hb => by
    have h:br (Nat.ble (Nat.succ x) since) (If since bs) false=true := h
    cases hx:Nat.ble (Nat.succ x) since with
    | false => rw [hx] at h; cases h
    | true =>
      rw [hx] at h
      rcases List.mem_cons.1 hb with e | hb
      · subst e; exact Ab.1 hx
      · exact Nu (show If since bs=true from h) b hb
section
variable {seen:List Nat} {leaf:V×V->Nat->R} {Φ:R->Prop}
theorem Ig:∀ {es:List (V×V)} {bs:List Nat} {acc:R}, (Ga seen leaf es bs acc).sat Φ->acc.sat Φ ∧ ∀ (i:Nat) (e:V×V) (b:Nat), es[i]? = some e->bs[i]? = some b->Gl b seen=false->(leaf e b).sat Φ
  | [], bs, acc, h => ⟨h, fun i e b he => by simp at he⟩
  | e0::es, [], acc, h => h.elim
  | e0::es, b0::bs, acc, h => by
    have h:(br (Gl b0 seen) (Ga seen leaf es bs acc) (Ga seen leaf es bs (.both acc (leaf e0 b0)))).sat Φ := h
    cases hm:Gl b0 seen with
    | true =>
      rw [hm] at h
      obtain ⟨h1, h2⟩ := Ig (show (Ga seen leaf es bs acc).sat Φ from h)
      refine ⟨h1, fun i e b he hb hn => ?_⟩
      cases i with
      | zero => simp at he hb; subst he hb; rw [hm] at hn; cases hn
      | succ i => exact h2 i e b (by simpa using he) (by simpa using hb) hn
    | false =>
      rw [hm] at h
      obtain ⟨h1, h2⟩ := Ig (show (Ga seen leaf es bs (.both acc (leaf e0 b0))).sat Φ from h)
      refine ⟨h1.1, fun i e b he hb hn => ?_⟩
      cases i with
      | zero => simp at he hb; subst he hb; exact h1.2
      | succ i => exact h2 i e b (by simpa using he) (by simpa using hb) hn
theorem KE:∀ {es:List (V×V)} {bs:List Nat} {none:R}, (GE seen leaf es bs none).sat Φ->((∀ b∈bs, Gl b seen=true)->es.length=bs.length->none.sat Φ) ∧ ∀ (i:Nat) (e:V×V) (b:Nat), es[i]? = some e->bs[i]? = some b->Gl b seen=false->(leaf e b).sat Φ
  | [], bs, acc, h => ⟨fun _ _ => h, fun i e b he => by simp at he⟩
  | e0::es, [], acc, h => h.elim
  | e0::es, b0::bs, acc, h => by
    have h:(br (Gl b0 seen) (GE seen leaf es bs acc) (Ga seen leaf es bs (leaf e0 b0))).sat Φ := h
    cases hm:Gl b0 seen with
    | true =>
      rw [hm] at h
      obtain ⟨h1, h2⟩ := KE (show (GE seen leaf es bs acc).sat Φ from h)
      refine ⟨fun ha hl => h1 (fun b hb => ha b (List.mem_cons_of_mem _ hb)) (by simpa using hl), fun i e b he hb hn => ?_⟩
      cases i with
      | zero => simp at he hb; subst he hb; rw [hm] at hn; cases hn
      | succ i => exact h2 i e b (by simpa using he) (by simpa using hb) hn
    | false =>
      rw [hm] at h
      obtain ⟨h1, h2⟩ := Ig (show (Ga seen leaf es bs (leaf e0 b0)).sat Φ from h)
      refine ⟨fun ha _ => absurd (ha b0 (List.mem_cons_self ..)) (by rw [hm]; simp), fun i e b he hb hn => ?_⟩
      cases i with
      | zero => simp at he hb; subst he hb; exact h1
      | succ i => exact h2 i e b (by simpa using he) (by simpa using hb) hn
end
theorem YG {x:Operand} {x':Opd} (ho:o.op = .next x false) (hx:AB N x=some x'):UX P ρ B N o t h n (VK (ev x' t) h n) := by
  intro κ Φ hs φ a w hT g K Q hK
  unfold VK at hs
  rw [Ft] at hs
  obtain ⟨q, off, hv, e1⟩ := DD (R.sat_good hs)
  rw [e1] at hs
  obtain ⟨h0, e2⟩ := Af (R.sat_good hs)
  rw [e2] at hs
  have h0 := Nat.eq_of_beq_eq_true h0
  subst h0
  have g1 := Ad hx hT
  rw [hv] at g1
  obtain ⟨b, sq, tot, hφ, gx⟩ := D4 g1
  rcases PB (R.sat_good hs) with ⟨hq, e3⟩ | ⟨p, since, seen, c, hq, e3⟩
  · rw [e3] at hs
    obtain ⟨hs0, hit⟩ := g.obj q _ b sq tot hq hφ
    subst hs0
    have hgo1:(getObj b).run P w = .ok (.mapIter none 0 #[] 0) w := by simp [getObj, Sem.run, hit]
    have hrun:(execOp a.eval o).run P w = .ok (.value (.tuple #[.bool false])) w := by
      simp only [execOp, ho, gx, Instr.next, Nat.zero_add, Sem.run_bind, hgo1, Result.andThen_ok]
      simp
    unfold Oper.wp
    rw [hrun]
    exact hK _ _ _ hs φ _ w (Fr.refl h φ n w) g (by simp only [Ap, BL]; exact ⟨_, rfl, _, _, rfl, rfl, rfl⟩)
  · rw [e3] at hs
    obtain ⟨es, bs, clk, hp, e4⟩ := EH (R.sat_good hs)
    rw [e4] at hs
    obtain ⟨h5, e5⟩ := Af (R.sat_good hs)
    rw [e5] at hs
    obtain ⟨h6, e6⟩ := Af (R.sat_good hs)
    rw [e6] at hs
    obtain ⟨c1, c2⟩ := KE hs
    obtain ⟨bm, sm, tm, hφm, hs0, hit⟩ := g.obj q _ b sq tot hq hφ
    subst hs0
    obtain ⟨ents, m1, m2, m3⟩ := g.obj p _ bm sm tm hp hφm
    have hold:∀ x∈ents.toList, x.born<since := fun x hx => Nu h5 _ (by rw [←m3]; exact List.mem_map.2 ⟨x, hx, rfl⟩)
    have hlen:es.length=bs.length := by rw [←FG m2, ←m3, List.length_map]
    have hcon:∀ k:Nat, seen.reverse.toArray.contains k=Gl k seen := fun k => by rw [Sk]; simp
    rcases run_next_at (P := P) w o.type b bm since c seen.reverse.toArray ents clk hit m1 hold (Ab.1 h6) with ⟨hz, hrun⟩ | ⟨e, he, w1, hal, hrun⟩
    · have hall:∀ k∈bs, Gl k seen=true := fun k hk => by
        rw [←m3] at hk
        obtain ⟨x, hx, rfl⟩ := List.mem_map.1 hk
        cases hm:Gl x.born seen with
        | true => rfl
        | false =>
          have:x∈leftOf ents seen.reverse.toArray := by
            unfold leftOf
            rw [Array.mem_filter]
            exact ⟨by simpa using hx, by rw [hcon, hm]; rfl⟩
          rw [Array.eq_empty_of_size_eq_zero hz] at this
          simp at this
      have hx:(execOp a.eval o).run P w = .ok (.value (.tuple #[.bool false])) w := by
        simp only [execOp, ho, gx, Nat.zero_add, Sem.run_bind, hrun, Result.andThen_ok]
        simp
      unfold Oper.wp
      rw [hx]
      exact hK _ _ _ (c1 hall hlen) φ _ w (Fr.refl h φ n w) g (by simp only [Ap, BL]; exact ⟨_, rfl, _, _, rfl, rfl, rfl⟩)
    · have he':e∈ents.toList∧Gl e.born seen=false := by
        unfold leftOf at he
        have he := Array.mem_filter.1 (Array.mem_toList_iff.1 he)
        refine ⟨by simpa using he.1, ?_⟩
        have := he.2
        rw [hcon] at this
        simpa using this
      obtain ⟨i, hi⟩ := List.getElem?_of_mem he'.1
      have hil:i<es.length := by rw [←FG m2]; exact (List.getElem?_eq_some_iff.1 hi).1
      obtain ⟨mm, hmm, hk1, hk2⟩ := KL m2 (List.getElem?_eq_getElem hil)
      rw [hi] at hmm; cases hmm
      have hb:bs[i]? = some e.born := by rw [←m3, List.getElem?_map, hi]; rfl
      have leaf := c2 i _ _ (List.getElem?_eq_getElem hil) hb he'.2
      unfold Q7 at leaf
      rw [BP, AT] at leaf
      have g1:Gam ρ B h n φ w1 := by
        rcases hal with e | e
        · rw [e]; exact g
        · rw [e]; exact g.drew
      have f1:Fr h h φ φ n n w w1 := by
        rcases hal with e | e
        · rw [e]; exact Fr.refl h φ n _
        · rw [e]; exact Fr.drew
      have hw:setBlock w1 b (.mapIter (some bm) since (seen.reverse.toArray.push e.born) clk)=D8 w1 b (.mapIter (some bm) since (e.born::seen).reverse.toArray clk) := by
        have:seen.reverse.toArray.push e.born=(e.born::seen).reverse.toArray := by simp
        rw [this]; rfl
      rw [hw] at hrun
      have hbl := (g1.blk q b 0 tot hφ).2
      have g2:Gam ρ B (Ae q h (some (.it p since (e.born::seen) clk))) n φ (D8 w1 b (.mapIter (some bm) since (e.born::seen).reverse.toArray clk)) :=
        g1.write (o := .it p since seen c) (o' := .it p since (e.born::seen) clk) hq hφ rfl rfl ⟨bm, sm, tm, hφm, rfl, DU hbl⟩
      have f2:Fr h (Ae q h (some (.it p since (e.born::seen) clk))) φ φ n n w1 (D8 w1 b (.mapIter (some bm) since (e.born::seen).reverse.toArray clk)) :=
        Fr.write (o := .it p since seen c) hq hφ
      have hx:(execOp a.eval o).run P w = .ok (.value (.tuple #[.bool true, e.key, e.val])) (D8 w1 b (.mapIter (some bm) since (e.born::seen).reverse.toArray clk)) := by
        simp only [execOp, ho, gx, Nat.zero_add, Sem.run_bind, hrun, Result.andThen_ok]
        simp
      unfold Oper.wp
      rw [hx]
      exact hK _ _ _ leaf φ _ _ (Fr.trans f1 f2) g2 (by simp only [Ap, BL]; exact ⟨_, rfl, _, _, rfl, rfl, _, _, rfl, hk1, _, _, rfl, hk2, rfl⟩)
end
end Go.Ev

namespace Go.Ev
set_option linter.unusedVariables false
def Dr (r:R) (κ:KV):R := @R.rec (fun _ => R) (Fh "") (fun v h n => κ v h n) (fun w => .fail w) (fun _ _ a b => .both a b) r
/-- A round: its arguments are the box and what has come; it says true. -/
def Z6 (cf:Fz) (p:K4) (l:List V) (h:Heap) (n:K4) (κ:KV):R :=
  Be p h fun o => @Option.rec Ob (fun _ => R) (.fail "") (fun o => @Ob.rec (fun _ => R) (C4 "") (C4 "") (Fh "") (.fail "")
    (fun f box => @List.rec V (fun _ => R) (.fail "") (fun x l _ => @List.rec V (fun _ => R)
      (BN p h none fun h => Dr (cf (Bk f) [.oth .no, .ptr box 0, x] h n) fun v h n => BN p h (some (.lp f box)) fun h => κ v h n) (C4 "") l) l) o) o
def VF (cf:Fz) (v:V) (l:List V) (h:Heap) (n:K4) (κ:KV):R :=
  @V.rec (fun _ => R) (fun _ => Unit) (Ax "") (AQ "") (Ax "") (DX "") (Ax "") (Ax "") (AQ "") (AQ "")
    (fun f caps _ => EQ l caps fun l => Dr (cf (Bk f) l h n) κ) (Ax "")
    (fun o => @Ot.rec (fun _ => R) (.fail "") (AQ "") (fun p => Z6 cf p l h n κ) (.fail "") (C4 "") (Ax "") (.fail "") (Ax "") (Fh "") (Fh "") (C4 "") (Ax "") (Ax "") (C4 "") (AQ "") o) () (fun _ _ _ _ => ()) v
abbrev Z2 (cf:Fz) (sp:Sp) (ε:Jb) (h:Heap) (n:K4) (κ:KV):R :=
  @Sp.rec (fun _ => R) (fun x => ε x fun v => UW v h n κ) (fun x => ε x fun v => VK v h n κ) (fun x => ε x fun v => Pn v h n κ)
    (fun f l => Gz ε l fun l => Dr (cf (Bk f) l h n) κ) (fun x l => ε x fun v => Gz ε l fun l => VF cf v l h n κ) sp
section
variable {P:Program} {ρ:Env} {B N:Nat}
def Nr:Option Nat->Fence
  | none => Fence.wide
  | some l => Fence.wide.inRound l
theorem UQ (l:Option Nat) (f:FuncId):(Nr l).fn f := by cases l <;> trivial
theorem Tq (l:Option Nat):(Nr l).depth=none := by cases l <;> rfl
theorem P5 {l:Option Nat} {n:Nat} {f:FuncId} {args:Array Value} {w:World} {R:Ending->World->Prop} (h:Calls P f args w R):CallsIn (Nr l) n P f args w R := by
  cases l with
  | none => exact callsIn_wide.2 h
  | some l => exact (show CallsIn Fence.wide n P f args w R from callsIn_wide.2 h)
theorem WV {l:Option Nat} {n:Nat} {o:Oper} {a:Act} {K K':Act->World->Prop} {Q:Exit->Act->World->Prop} (hK:∀ a w, K a w->K' a w):∀ {r:Result Next}, o.upon P a K Q r->o.uponIn (Nr l) n P a K' Q r := by
  have hd:(Nr l).depth.isSome=true->1≤n := fun h => by rw [Tq] at h; cases h
  intro r h
  cases r with
  | ok x w =>
    cases x with
    | value v => exact hK _ _ h
    | skip => exact hK _ _ h
    | defer d => exact hK _ _ h
    | enter f args =>
      refine ⟨hd, (P5 (show Calls P f args w _ from h)).mono fun e w' he => ?_⟩
      cases e with
      | returned v => exact hK _ _ he
      | panicked c => exact he
      | outgrown => exact he
    | row row args =>
      refine ⟨hd, fun c cs _ => ?_⟩
      obtain ⟨v, w', hr, hs⟩ := (show Rows P row args w _ from h) c cs
      refine ⟨v, w', hK _ _ hr, ?_⟩
      cases l with
      | none => exact stepsIn_wide.2 hs
      | some l => exact (show StepsIn (Machine.fenced P Fence.wide) P _ _ from stepsIn_wide.2 hs)
    | _ => exact h.elim
  | halt x w => cases x <;> first | exact h | exact h.elim
theorem Rq {l:Option Nat} {n:Nat} {o:Oper} {a:Act} {w:World} {K K':Act->World->Prop} {Q:Exit->Act->World->Prop} (hd:l=none ∨ ∀ c, o.op ≠ .defer c) (hK:∀ a w, K a w->K' a w) (h:o.wp P a w K Q):o.wpIn (Nr l) n P a w K' Q := by
  refine ⟨fun f _ => UQ l f, ?_⟩
  have e:o.semAt (Nr l).round a.eval=execOp a.eval o := by
    cases l with
    | none => rfl
    | some l =>
      rcases hd with h | h
      · cases h
      · exact Oper.semAt_eq _ _ _ h
  rw [e]
  exact WV hK h
theorem Em {l:Option Nat} {n:Nat} {ops:Array Oper} {Q:Exit->Act->World->Prop} {r:List Oper}:∀ {os:List Oper} {a:Act} {w:World}, (l=none ∨ ∀ o∈os, ∀ c, o.op ≠ .defer c) →
    FH P ops Q (wpListIn (Nr l) n P ops Q r) os a w->wpListIn (Nr l) n P ops Q (os++r) a w
  | [], _, _, _, h => h
  | o::os, a, w, hd, h => by
    show wpListIn (Nr l) n P ops Q (o::(os++r)) a w
    simp only [wpListIn]
    unfold FH at h
    have hd1:l=none ∨ ∀ c, o.op ≠ .defer c := hd.imp id fun h => h o (List.mem_cons_self ..)
    have hd2:l=none ∨ ∀ o∈os, ∀ c, o.op ≠ .defer c := hd.imp id fun h o ho => h o (List.mem_cons_of_mem _ ho)
    split
    · rw [if_pos (by assumption)] at h
      exact Rq hd1 (fun a w h => Em hd2 h) h
    · rw [if_neg (by assumption)] at h
      exact ⟨fun f _ => UQ l f, Em hd2 h⟩
/-- A call's ways. -/
def IH (P:Program) (ρ:Env) (B:Nat) (cf:CF):Prop :=
  ∀ f args h n (Φ:R->Prop), (cf f args h n).sat Φ->∀ φ w (xs:Array Value), Gam ρ B h n φ w->BL ρ φ args xs.toList →
    M1 P f xs w fun x w' => ∃ v h1 n1 φ', Φ (.rv v h1 n1)∧Fr h h1 φ φ' n n1 w w'∧Gam ρ B h1 n1 φ' w'∧Ap ρ φ' v x
theorem IH.ok {cf:CF} (H:IH P ρ B cf):Eu P ρ B cf := fun f args h n v h1 n1 hr φ w xs g hx o a K Q hK => by
  refine H f args h n (fun r => r = .rv v h1 n1) (by rw [hr]; exact rfl) φ w xs g hx o a K Q fun x w' ⟨v', h', n', φ', e, f1, g1, r1⟩ => hK x w' ?_
  cases e
  exact ⟨φ', f1, g1, r1⟩
/-- The record of a loop over a function, between two rounds. -/
def G2 (A:ApC) (f:FuncId) (tmps:Array Value) (D:Nat):Loop := { state := .ready, pending := none, fn := f, tmps, params := #[A.par], assign := A.asg, body := A.bod, defers := D }
/-- A round is sound: its record is none of the objects. -/
def IL (P:Program) (ρ:Env) (B:Nat) (cf:CF):Prop :=
  ∀ f A fn, ρ.ap f=some A->∀ box x h n (Φ:R->Prop), (cf f [.oth .no, .ptr box 0, x] h n).sat Φ->∀ φ w (tmps:Array Value) X l D, Gam ρ B h n φ w->w.heap[l]? = some (.loop (G2 A fn tmps D)) →
    (∀ q s tot, φ q=some (l, s, tot)->A9 q h=none)->tmps.size=A.ntm->Ap ρ φ (.ptr box 0) (tmps.getD A.box undef)->Ap ρ φ x X →
    RoundIn Fence.wide 0 P l fn (tmps.setIfInBounds A.par X) A.asg A.bod w fun e w' => e = .returned (.bool true) ∧
      ∃ v h1 n1 φ', v = .bool true∧Φ (.rv v h1 n1)∧Fr h h1 φ φ' n n1 w w'∧Gam ρ B h1 n1 φ' w'
/-- One step, inside the fence. -/
def YR (P:Program) (ρ:Env) (B N:Nat) (o:Oper) (t:Regs) (h:Heap) (n:K4) (f:KV->R):Prop :=
  ∀ (κ:KV) (Φ:R->Prop), (f κ).sat Φ->∀ (φ:AO) (a:Act) (w:World), TR ρ N φ t a->Gam ρ B h n φ w->∀ (K:Act->World->Prop) (Q:Exit->Act->World->Prop),
    (∀ v h1 n1, (κ v h1 n1).sat Φ->∀ φ' x w', Fr h h1 φ φ' n n1 w w'->Gam ρ B h1 n1 φ' w'->Ap ρ φ' v x->K (a.put o.dst x) w')->o.wpIn (Nr none) 0 P a w K Q
section
variable {o:Oper} {t:Regs} {h:Heap} {n:K4} {cf:CF} {cf2:Fz}
theorem UX.in_ {f:KV->R} (H:UX P ρ B N o t h n f):YR P ρ B N o t h n f := fun κ Φ hs φ a w hT g K Q hK => Rq (.inl rfl) (fun _ _ h => h) (H κ Φ hs φ a w hT g K Q hK)
/-- What is asked of a call's ways. -/
def XZ (κ:KV) (Φ:R->Prop):R->Prop
  | .rv v h n => (κ v h n).sat Φ
  | _ => False
theorem Eo {κ:KV} {Φ:R->Prop}:∀ {r:R}, (Dr r κ).sat Φ->r.sat (XZ κ Φ)
  | .ok _ _ _ _, h => h.elim
  | .rv _ _ _, h => h
  | .fail _, h => h.elim
  | .both a b, h => ⟨Eo (r := a) h.1, Eo (r := b) h.2⟩
theorem YU {ct:Call} {f:FuncId} {args:List Opd} (hcf:IH P ρ B cf) (h2:∀ f, cf2 (Bk f)=cf f) (ho:o.op = .call ct) (hc:ct.callee = .value (.func f)) (ha:BJ N ct.args.toList=some args) :
    UX P ρ B N o t h n fun κ => Dr (cf2 (Bk f) (args.map (ev · t)) h n) κ := by
  intro κ Φ hs φ a w hT g K Q hK
  have hs := Eo hs
  rw [h2] at hs
  have := hcf f _ h n _ hs φ w (ct.args.map a.eval) g (by rw [Array.toList_map]; exact Fd ha hT) o a K Q (fun x w' ⟨v, h1, n1, φ', hΦ, f1, g1, r1⟩ => hK v h1 n1 hΦ φ' x w' f1 g1 r1)
  unfold Oper.wp
  have e3:(execOp a.eval o).run P w=(callFunc f (ct.args.map a.eval)).run P w := by
    simp [execOp, ho, resolve, hc, Act.eval, Deferred.ofValue, invoke]
  rw [e3]; exact this
/-- What was put aside is laid back. -/
theorem Gam.back {h1:Heap} {n1 p:K4} {φ φ1:AO} {w w1:World} {ob:Ob} {b s tot:Nat} (g:Gam ρ B h n φ w) (hp:A9 p h=some ob) (hφ:φ p=some (b, s, tot)) (hsup:K9 ob=false) (hprev:C7 ob=none)
    (f1:Fr (Ae p h none) h1 φ φ1 n n1 w w1) (g1:Gam ρ B h1 n1 φ1 w1) (hw:w1.heap[b]? = w.heap[b]?) :
    Gam ρ B (Ae p h1 (some ob)) n1 φ1 w1∧Fr h (Ae p h1 (some ob)) φ φ1 n n1 w w1 := by
  have out:∀ q o' s' tot', p≠q->A9 q h1=some o'->φ1 q=some (b, s', tot')->False := fun q o' s' tot' hne hq hx => by
    have key:∀ r o2 sr tr, p≠r->A9 r h=some o2->φ r=some (b, sr, tr)->False := fun r o2 sr tr hpr hr hxr => by
      rcases g.sep p r ob o2 b s tot sr tr hpr hp hr hφ hxr with e | e
      · rw [hprev] at e; cases e
      · have := g.sup r p o2 ob b sr tr s tot hr e hp hxr hφ
        rw [hsup] at this; cases this
    rcases f1.fresh q b s' tot' hx with e | e | ⟨r, sr, tr, hr, hne'⟩
    · cases hq':A9 q h with
      | none =>
        have := f1.dm q (by rw [e]; simp) (by rw [A8 _ _ hne]; exact hq')
        rw [this] at hq; cases hq
      | some o2 => exact key q o2 s' tot' hne hq' e
    · have := (g.blk p b s tot hφ).2; omega
    · by_cases e:p=r
      · subst e; exact hne' (A6 _ _ _)
      · rw [A8 _ _ e] at hne'
        cases hr':A9 r h with
        | none => exact hne' hr'
        | some o2 => exact key r o2 sr tr e hr' hr
  have hφ1 := f1.ext _ _ hφ
  refine ⟨⟨g1.base, g1.dom, g1.blk, fun q o' b' s' tot' hq hx => ?_, fun q r o1 o2 b' s1 t1 s2 t2 hne hq hr hx hy => ?_, fun q r o1 o2 b' s1 t1 s2 t2 hq hpr hr hx hy => ?_, g1.glob⟩,
    ⟨f1.ext, f1.new, f1.nn, f1.os, f1.tape, f1.out, f1.size, fun b' hb hn => f1.old b' hb fun q s' tot' hx => ?_, fun q b' s' tot' hx => ?_, fun q hq hn => ?_⟩⟩
  · rcases BQ hq with ⟨rfl, e⟩ | ⟨hne, hq⟩
    · cases e
      rw [hφ1] at hx; cases hx
      exact Ck hw (Et f1.ext (g.obj p _ _ _ _ hp hφ))
    · exact g1.obj q o' b' s' tot' hq hx
  · rcases BQ hq with ⟨rfl, e⟩ | ⟨hq', hq⟩
    · rw [hφ1] at hx; cases hx
      rcases BQ hr with ⟨e', _⟩ | ⟨hr', hr⟩
      · exact absurd e' hne
      · exact (out r o2 s2 t2 hr' hr hy).elim
    · rcases BQ hr with ⟨rfl, e⟩ | ⟨hr', hr⟩
      · rw [hφ1] at hy; cases hy
        exact (out q o1 s1 t1 hq' hq hx).elim
      · exact g1.sep q r o1 o2 b' s1 t1 s2 t2 hne hq hr hx hy
  · rcases BQ hq with ⟨rfl, e⟩ | ⟨hq', hq⟩
    · cases e; rw [hprev] at hpr; cases hpr
    · rcases BQ hr with ⟨rfl, e⟩ | ⟨hr', hr⟩
      · rw [hφ1] at hy; cases hy
        exact (out q o1 s1 t1 hq' hq hx).elim
      · exact g1.sup q r o1 o2 b' s1 t1 s2 t2 hq hpr hr hx hy
  · by_cases e:p=q
    · subst e; exact A6 _ _ _
    · rw [A8 _ _ e]; exact hn q s' tot' hx
  · rcases f1.fresh q b' s' tot' hx with e | e | ⟨r, sr, tr, hr, hne'⟩
    · exact .inl e
    · exact .inr (.inl e)
    · refine .inr (.inr ⟨r, sr, tr, hr, fun hn => hne' ?_⟩)
      by_cases e:p=r
      · subst e; exact A6 _ _ _
      · rw [A8 _ _ e]; exact hn
  · have hne:p≠q := fun e => by subst e; rw [hp] at hn; cases hn
    rw [A8 _ _ hne]
    exact f1.dm q hq (by rw [A8 _ _ hne]; exact hn)
/-- An object is put aside. -/
theorem Gam.aside {p:K4} {φ:AO} {w:World} (g:Gam ρ B h n φ w):Gam ρ B (Ae p h none) n φ w := by
  have get:∀ q o, A9 q (Ae p h none)=some o->A9 q h=some o := fun q o hq => by
    rcases BQ hq with ⟨_, e⟩ | ⟨_, hq⟩
    · cases e
    · exact hq
  exact ⟨g.base, g.dom, g.blk, fun q o b s t hq hx => g.obj q o b s t (get q o hq) hx, fun q r o o' b s t s' t' hne hq hr hx hy => g.sep q r o o' b s t s' t' hne (get q o hq) (get r o' hr) hx hy,
    fun q r o o' b s t s' t' hq hpr hr hx hy => g.sup q r o o' b s t s' t' (get q o hq) hpr (get r o' hr) hx hy, g.glob⟩
theorem Yv {ct:Call} {x:Operand} {x':Opd} {args:List Opd} (hcf:IH P ρ B cf) (hR:IL P ρ B cf) (h2:∀ f, cf2 (Bk f)=cf f) (ho:o.op = .call ct) (hc:ct.callee = .value x) (hx:AB N x=some x') (ha:BJ N ct.args.toList=some args) :
    YR P ρ B N o t h n fun κ => VF cf2 (ev x' t) (args.map (ev · t)) h n κ := by
  intro κ Φ hs φ a w hT g K Q hK
  have g1 := Ad hx hT
  have gargs := Fd ha hT
  cases hv:ev x' t with
  | fn f caps =>
    rw [hv] at g1 hs
    have hs:(EQ (args.map (ev · t)) caps fun l => Dr (cf2 (Bk f) l h n) κ).sat Φ := hs
    rw [DG] at hs
    have hs := Eo hs
    rw [h2] at hs
    obtain ⟨cs, gx, hcs⟩ := Jq g1
    refine Rq (.inl rfl) (fun _ _ h => h) ?_
    have := hcf f _ h n _ hs φ w (ct.args.map a.eval++cs) g (by rw [Array.toList_append, Array.toList_map]; exact FO gargs hcs) o a K Q (fun x w' ⟨v, h1, n1, φ', hΦ, f1, g1, r1⟩ => hK v h1 n1 hΦ φ' x w' f1 g1 r1)
    unfold Oper.wp
    have e3:(execOp a.eval o).run P w=(callFunc f (ct.args.map a.eval++cs)).run P w := by
      simp [execOp, ho, resolve, hc, gx, Deferred.ofValue, invoke]
    rw [e3]; exact this
  | oth ot =>
    rw [hv] at g1 hs
    cases ot with
    | any => exact hs.elim
    | sym i => exact hs.elim
    | no => exact hs.elim
    | iv k lo hi => exact hs.elim
    | os lo hi => exact hs.elim
    | bl => exact hs.elim
    | rs m j => exact hs.elim
    | ss lo hi n c => exact hs.elim
    | ro i lo hi z => exact hs.elim
    | ap i j m => exact hs.elim
    | sy k i => exact hs.elim
    | rb n c => exact hs.elim
    | rx l m z => exact hs.elim
    | rp l => exact hs.elim
    | yl p =>
      have hs:(Z6 cf2 p (args.map (ev · t)) h n κ).sat Φ := hs
      unfold Z6 at hs
      rw [Bi] at hs
      cases hob:A9 p h with
      | none => rw [hob] at hs; exact hs.elim
      | some ob =>
        rw [hob] at hs
        cases ob with
        | c _ _ _ => exact hs.elim
        | m _ _ _ => exact hs.elim
        | it _ _ _ _ => exact hs.elim
        | it0 => exact hs.elim
        | lp f box =>
          generalize hal:args.map (ev · t)=al at hs gargs
          match al, hs, gargs, hal with
          | [], hs, _, _ => exact hs.elim
          | _::_::_, hs, _, _ => exact hs.elim
          | [y], hs, gargs, hal =>
            have hs:(BN p h none fun h => Dr (cf2 (Bk f) [.oth .no, .ptr box 0, y] h n) fun v h n => BN p h (some (.lp f box)) fun h => κ v h n).sat Φ := hs
            rw [BP, AT] at hs
            have hs := Eo hs
            rw [h2] at hs
            have g1:∃ b s tot, φ p=some (b, s, tot)∧a.eval x = .func (.yield b) #[] #[] := by simpa only [Ap] using g1
            obtain ⟨b, s, tot, hφ, gx⟩ := g1
            obtain ⟨hs0, A, fn, tmps, D, hA, hrec, hsz, hbox⟩ := g.obj p _ b s tot hob hφ
            subst hs0
            obtain ⟨X, l0, hX, rX, h0⟩ := Aq.1 gargs
            have h0 := Aw.1 h0
            subst h0
            have hargs:ct.args.map a.eval = #[X] := by
              have:(ct.args.map a.eval).toList=[X] := by rw [Array.toList_map]; exact hX
              cases hh:ct.args.map a.eval with
              | mk l => rw [hh] at this; simp at this; rw [this]
            have unc:∀ q s tot, φ q=some (b, s, tot)->A9 q (Ae p h none)=none := fun q s' tot' hq => by
              by_cases e:p=q
              · subst e; exact A6 _ _ _
              · rw [A8 _ _ e]
                cases hq':A9 q h with
                | none => rfl
                | some o2 =>
                  rcases g.sep p q _ o2 b 0 tot s' tot' e hob hq' hφ hq with e | e
                  · cases e
                  · have := g.sup q p o2 _ b s' tot' 0 tot hq' e hob hq hφ; cases this
            have rnd := hR f A fn hA box y _ n _ hs φ w tmps X b D g.aside hrec unc hsz hbox rX
            refine ⟨fun f _ => trivial, ?_⟩
            have e3:(o.semAt (Nr none).round a.eval).run P w = .ok (.round b fn (tmps.setIfInBounds A.par X) A.asg A.bod) w := by
              have e4:(Instr.yield b #[X]).run P w = .ok (.round b fn (tmps.setIfInBounds A.par X) A.asg A.bod) w := by
                have := run_yield (P := P) (args := #[X]) hrec rfl
                simpa [G2] using this
              show (execOp a.eval o).run P w=_
              simp [execOp, ho, resolve, hc, gx, Deferred.ofValue, invoke, hargs, e4]
            rw [e3]
            refine ⟨fun h => (by cases h), rnd.mono fun e w' ⟨he, v, h1, n1, φ', hv, hΦ, f1, g1⟩ => ?_⟩
            subst he
            have hΦ:(BN p h1 (some (.lp f box)) fun h => κ v h n1).sat Φ := hΦ
            rw [BP, AT] at hΦ
            subst hv
            have hbl := (g.blk p b 0 tot hφ).2
            have hw':w'.heap[b]? = w.heap[b]? := f1.old b hbl unc
            obtain ⟨g2, f2⟩ := g.back hob hφ rfl rfl f1 g1 hw'
            exact hK _ _ _ hΦ φ' (.bool true) w' f2 g2 (by simp only [Ap])
  | _ => rw [hv] at hs; exact hs.elim
end
end
end Go.Ev

namespace Go.Ev
set_option linter.unusedVariables false
abbrev Og := Ren->S->Heap->K4->R
abbrev r0:Og := fun _ t h n => .ok .nrm t h n
/-- It comes to its end by no other way than an exit. -/
def AC.ends (c:AC):Bool := @AC.rec (fun _ => Bool) false (fun _ _ x y => or x y) (fun _ => false) (fun _ _ => false) (fun _ _ _ x y => and x y) (fun _ _ _ => false) (fun _ _ => true) (fun _ => true) true (fun _ => true) (fun _ _ _ _ => false) c
def C9 (r:R) (κ:S->Heap->K4->R):R :=
  @R.rec (fun _ => R) (fun e t h n => @Ex.rec (fun _ => R) (κ t h n) (fun id => .ok (.exit id) t h n) (.ok .ret t h n) e) (C4 "") (fun w => .fail w) (fun _ _ a b => .both a b) r
def Ao (id:Nat) (r:R) (κ:S->Heap->K4->R):R :=
  @R.rec (fun _ => R) (fun e t h n => @Ex.rec (fun _ => R) (κ t h n) (fun j => br (Nat.beq j id) (κ t h n) (.ok (.exit j) t h n)) (.ok .ret t h n) e) (C4 "") (fun w => .fail w) (fun _ _ a b => .both a b) r
def C0 (body:S->Heap->K4->R):S->Heap->K4->R := DH body 1000000000
def Mo (n:K4) (κ:K4->K4->R):R := n.nx16 fun b => b.nx16 fun n => κ b n
abbrev UF (al:Bool) (n:K4) (κ:K4->K4->R):R := Y0 al (Mo n κ) (κ n n)
abbrev VU (ea eb:Bool) (v:V) (a b:Og->Og) (rest:Og) (env:Ren) (t:S) (h:Heap) (n:K4):R :=
  Y0 ea (BM v (a r0 env t h n) (b rest env t h n)) (Y0 eb (BM v (a rest env t h n) (b r0 env t h n)) (C9 (BM v (a r0 env t h n) (b r0 env t h n)) fun t h n => rest [] t h n))
abbrev HS (sm:SM) (cf:Fz) (c:AC):Og->Og :=
  @AC.rec (fun _ => Og->Og) (fun rest => rest) (fun _ _ a b rest => a (b rest)) (fun l rest env t h n => DE sm cf l env t h n rest)
    (fun al l rest env t h n => UF al n fun b n => E9 sm cf b l env t h h n fun env t _ h n => rest env t h n)
    (fun c x y a b rest env t h n => Bf sm env t c fun v => VU x.ends y.ends v a b rest env t h n)
    (fun id _ b rest env t h n => Ao id (b r0 env t h n) fun t h n => rest [] t h n)
    (fun _ b _ _ t h n => C0 (fun t h n => b r0 [] t h n) t h n) (fun id _ _ t h n => .ok (.exit id) t h n) (fun _ _ t h n => .ok .ret t h n) (DX "")
    (fun pre sp d post rest env t h n => DE sm cf pre env t h n fun env t h n => Z2 cf sp (Bf sm env t) h n fun v h n => Dt sm d t v fun t => DE sm cf post (C2 d v env) t h n rest) c
def ER (sm:SM) (dom:List K2) (c:Opd):Bool := @Opd.rec (fun _ => Bool) (fun p => Eb sm dom p) (fun _ => true) c
def Rl (sm:SM) (dom:List K2) (sp:Sp):Bool := @Sp.rec (fun _ => Bool) (fun x => ER sm dom x) (fun x => ER sm dom x) (fun x => ER sm dom x) (fun _ l => l.all (ER sm dom)) (fun x l => ER sm dom x&&l.all (ER sm dom)) sp
/-- Are all registers that it reads kept, or told? -/
def Kq (sm:SM) (c:AC):(List K2->Bool)->List K2->Bool :=
  @AC.rec (fun _ => (List K2->Bool)->List K2->Bool) (fun r => r) (fun _ _ a b r => a (b r)) (fun l r dom => GX sm l dom&&r (CZ l dom))
    (fun al l r dom => II sm l dom&&r (Ja l dom))
    (fun c x y a b r dom => ER sm dom c&&br x.ends (a (fun _ => true) dom&&b r dom) (br y.ends (a r dom&&b (fun _ => true) dom) (a (fun _ => true) dom&&(b (fun _ => true) dom&&r []))))
    (fun id _ b r dom => b (fun _ => true) dom&&r []) (fun _ b _ _ => b (fun _ => true) []) (fun _ _ _ => true) (fun _ _ => true) (fun _ _ _ => true)
    (fun pre sp d post r dom => GX sm pre dom&&(Rl sm (CZ pre dom) sp&&(GX sm post (GO d (CZ pre dom))&&r (CZ post (GO d (CZ pre dom)))))) c
section
variable {P:Program} {ρ:Env} {B N:Nat} {cf:CF} {cf2:Fz} {sm:SM}
/-- What is asked behind a piece of code whose ways are joined. -/
def Vf (κ:S->Heap->K4->R) (Φ:R->Prop):R->Prop
  | .ok .nrm t h n => (κ t h n).sat Φ
  | .ok e t h n => Φ (.ok e t h n)
  | _ => False
theorem HN {κ:S->Heap->K4->R} {Φ:R->Prop}:∀ {r:R}, (C9 r κ).sat Φ->r.sat (Vf κ Φ)
  | .ok e t h n, hs => by cases e <;> exact hs
  | .rv _ _ _, hs => hs.elim
  | .fail _, hs => hs.elim
  | .both a b, hs => ⟨HN (r := a) hs.1, HN (r := b) hs.2⟩
theorem WL {body:S->Heap->K4->R} {k:Nat} {Φ:R->Prop} {t:S} {h:Heap} {n:K4} (hs:(DH body (k+1) t h n).sat Φ):(body t h n).sat (Vf (DH body k) Φ) := by
  have e:DH body (k+1) t h n=@R.rec (fun _ => R) (fun e t h n => @Ex.rec (fun _ => R) (DH body k t h n) (fun id => .ok (.exit id) t h n) (.ok .ret t h n) e) (C4 "") (fun w => .fail w) (fun _ _ a b => .both a b) (body t h n) := rfl
  rw [e] at hs
  generalize body t h n=r at hs
  clear e
  induction r with
  | ok e t h n => cases e <;> exact hs
  | rv _ _ _ => exact hs.elim
  | fail _ => exact hs.elim
  | both a b iha ihb => exact ⟨iha hs.1, ihb hs.2⟩
def Aag (id:Nat) (κ:S->Heap->K4->R) (Φ:R->Prop):R->Prop
  | .ok .nrm t h n => (κ t h n).sat Φ
  | .ok (.exit j) t h n => (j=id∧(κ t h n).sat Φ)∨(j≠id∧Φ (.ok (.exit j) t h n))
  | .ok .ret t h n => Φ (.ok .ret t h n)
  | _ => False
theorem Il {id:Nat} {κ:S->Heap->K4->R} {Φ:R->Prop}:∀ {r:R}, (Ao id r κ).sat Φ->r.sat (Aag id κ Φ)
  | .ok e t h n, hs => by
    cases e with
    | nrm => exact hs
    | ret => exact hs
    | exit j =>
      have hs:(br (Nat.beq j id) (κ t h n) (R.ok (.exit j) t h n)).sat Φ := hs
      cases hj:Nat.beq j id with
      | true => rw [hj] at hs; exact .inl ⟨Nat.eq_of_beq_eq_true hj, hs⟩
      | false => rw [hj] at hs; exact .inr ⟨fun e => by subst e; simp at hj, hs⟩
  | .rv _ _ _, hs => hs.elim
  | .fail _, hs => hs.elim
  | .both a b, hs => ⟨Il (r := a) hs.1, Il (r := b) hs.2⟩
/-- What code comes to whose rest is nothing. -/
def US (P:Program) (ρ:Env) (B N:Nat) (sm:SM) (C:Code) (t:Regs) (h:Heap) (n:K4) (Φ:R->Prop):Prop :=
  ∀ φ a w, TR ρ N φ t a->Gam ρ B h n φ w->∀ (Q:Exit->Act->World->Prop),
    (∀ e t1 h1 n1, Φ (.ok e t1 h1 n1)->∀ φ' a' w' tf, Fr h h1 φ φ' n n1 w w'->Gam ρ B h1 n1 φ' w'->TR ρ N φ' tf a'->(∀ p s, CB p sm=some s->S.get s t1=B8 p tf)->Q (QB e) a' w')->C.wp P Q a w
def U6 (P:Program) (ρ:Env) (B N:Nat) (sm:SM) (cf2:Fz) (C:Code):Prop :=
  ∀ (rest:Og) (rOk:List K2->Bool) (dom:List K2) (env:Ren) (t:Regs) (t':S) (h:Heap) (n:K4) (Φ:R->Prop),
    Kq sm (B1 P N C) rOk dom=true->RI sm dom env t t'->(HS sm cf2 (B1 P N C) rest env t' h n).sat Φ →
    ∀ φ a w, TR ρ N φ t a->Gam ρ B h n φ w->∀ (Q:Exit->Act->World->Prop),
      (∀ e t1 h1 n1, Φ (.ok e t1 h1 n1)->e ≠ .nrm->∀ φ' a' w' tf, Fr h h1 φ φ' n n1 w w'->Gam ρ B h1 n1 φ' w'->TR ρ N φ' tf a'->(∀ p s, CB p sm=some s->S.get s t1=B8 p tf)->Q (QB e) a' w') →
      ((B1 P N C).ends=false->∀ dom2 env2 t2 t2' h2 n2, rOk dom2=true->RI sm dom2 env2 t2 t2'->(rest env2 t2' h2 n2).sat Φ->∀ φ2 a2 w2, Fr h h2 φ φ2 n n2 w w2->Gam ρ B h2 n2 φ2 w2->TR ρ N φ2 t2 a2->Q .normal a2 w2) →
      C.wp P Q a w
theorem U6.join {C:Code} (H:U6 P ρ B N sm cf2 C) {dom:List K2} {env:Ren} {t:Regs} {t':S} {h:Heap} {n:K4} {Φ:R->Prop} (hok:Kq sm (B1 P N C) (fun _ => true) dom=true) (ri:RI sm dom env t t')
    (hx:(HS sm cf2 (B1 P N C) r0 env t' h n).sat Φ):US P ρ B N sm C t h n Φ := by
  intro φ a w hT g Q hQ
  refine H r0 _ dom env t t' h n Φ hok ri hx φ a w hT g Q (fun e t1 h1 n1 hΦ _ φ' a' w' tf f1 g1 T1 hk => hQ e t1 h1 n1 hΦ φ' a' w' tf f1 g1 T1 hk) fun _ dom2 env2 t2 t2' h2 n2 _ ri2 hr φ2 a2 w2 f2 g2 T2 => ?_
  have hr:Φ (R.ok .nrm t2' h2 n2) := hr
  exact hQ _ _ _ _ hr φ2 a2 w2 t2 f2 g2 T2 ri2.keep
theorem Wn {o:Oper} {d:Option K2} (h:YJ N o=some d):Sv N o.dst d := by
  unfold YJ at h
  cases hd:o.dst with
  | none => rw [hd] at h; cases h; trivial
  | some s =>
    rw [hd] at h
    obtain ⟨p, hp, rfl⟩ := Ah h
    exact DK hp
theorem MF {ops:Array Oper}:∀ {l:List Oper} {pre:List AOp} {sp:Sp} {d:Option K2} {post:List AOp}, OV P N ops l=some (pre, sp, d, post) →
    ∃ l1 o l2, l=l1++o::l2∧HX P N ops l1=some pre∧cSp P N o=some sp∧o.guard=none∧Sv N o.dst d∧HX P N ops l2=some post
  | [], pre, sp, d, post, h => by cases h
  | o::l, pre, sp, d, post, h => by
    unfold OV at h
    split at h
    · rename_i sp' hsp
      split at h
      · rename_i d' post' hg hd hp
        cases h
        exact ⟨[], o, l, rfl, rfl, hsp, hg, Wn hd, hp⟩
      · cases h
    · split at h
      · cases h
      · rename_i r hr
        split at h
        · rename_i x hx
          obtain ⟨pre', sp', d', post'⟩ := r
          cases h
          obtain ⟨l1, o', l2, rfl, h1, h2, h3, h4, h5⟩ := MF hr
          refine ⟨o::l1, o', l2, rfl, ?_, h2, h3, h4, h5⟩
          simp only [HX, hx, h1]
        · cases h
/-- The kinds of maps that are ranged over are told by the program's types. -/
theorem Zv {cf:CF} {cf2:Fz} (hcf:IH P ρ B cf) (hR:IL P ρ B cf) (h2:∀ f, cf2 (Bk f)=cf f) {o:Oper} {sp:Sp} (hc:cSp P N o=some sp) {t:Regs} {h:Heap} {n:K4}:YR P ρ B N o t h n (Z2 cf2 sp (fun x κ => κ (ev x t)) h n) := by
  have tl:∀ (l:List Opd) (κ:List V->R), Gz (fun x κ => κ (ev x t)) l κ=κ (l.map (ev · t)) := fun l κ => Gn (fun x _ κ => rfl)
  unfold cSp at hc
  split at hc
  · rename_i ty x ho
    split at hc
    · rename_i kt e ht
      obtain ⟨x', hx, rfl⟩ := Ah hc
      exact (Tt ho hx ht).sp.in_
    · cases hc
  · rename_i x s ho
    split at hc
    · cases hc
    · rename_i hs
      obtain ⟨x', hx, rfl⟩ := Ah hc
      have:s=false := by simpa using hs
      subst this
      exact (YG ho hx).in_
  · rename_i x ho
    obtain ⟨x', hx, rfl⟩ := Ah hc
    exact (Td ho hx).sp.in_
  · rename_i ct ho
    split at hc
    · rename_i f hcal
      split at hc
      · obtain ⟨l, hl, rfl⟩ := Ah hc
        have e:Z2 cf2 (.tcl f l) (fun x κ => κ (ev x t)) h n=fun κ => Dr (cf2 (Bk f) (l.map (ev · t)) h n) κ := by
          funext κ
          exact tl l _
        rw [e]
        exact (YU hcf h2 ho hcal hl).in_
      · cases hc
    · rename_i s hcal
      split at hc
      · rename_i x l hx hl
        cases hc
        have e:Z2 cf2 (.dcl x l) (fun x κ => κ (ev x t)) h n=fun κ => VF cf2 (ev x t) (l.map (ev · t)) h n κ := by
          funext κ
          exact tl l _
        rw [e]
        exact Yv hcf hR h2 ho hcal hx hl
      · cases hc
    · cases hc
  · cases hc
theorem YW (hρ:Bq ρ) (hm:P.follows .mixedOrders=true) (hct:IH P ρ B cf) (hR:IL P ρ B cf) (h2:∀ f, cf2 (Bk f)=cf f):∀ C:Code, U6 P ρ B N sm cf2 C := by
  have hcf := hct.ok
  intro C
  induction C with
  | skip => intro rest rOk dom env t t' h n Φ hok ri hx φ a w hT g Q hex hre; exact wp_skip (hre rfl dom env t t' h n hok ri hx φ a w (Fr.refl h φ n w) g hT)
  | label l => intro rest rOk dom env t t' h n Φ hok ri hx φ a w hT g Q hex hre; exact wp_label (hre rfl dom env t t' h n hok ri hx φ a w (Fr.refl h φ n w) g hT)
  | exit id =>
    intro rest rOk dom env t t' h n Φ hok ri hx φ a w hT g Q hex hre
    exact wp_exit (hex _ _ _ _ hx (fun h => by cases h) φ a w t (Fr.refl h φ n w) g hT ri.keep)
  | ret =>
    intro rest rOk dom env t t' h n Φ hok ri hx φ a w hT g Q hex hre
    exact wp_ret (hex _ _ _ _ hx (fun h => by cases h) φ a w t (Fr.refl h φ n w) g hT ri.keep)
  | region id ops draw =>
    intro rest rOk dom env t t' h n Φ hok ri hx φ a w hT g Q hex hre
    cases draw with
    | true =>
      have hok:Kq sm (CJ P N ops true) rOk dom=true := hok
      have hx:(HS sm cf2 (CJ P N ops true) rest env t' h n).sat Φ := hx
      have hre:(CJ P N ops true).ends=false->_ := hre
      unfold CJ at hok hx hre
      split at hx
      · exact hx.elim
      · rename_i os hos
        simp only [hos, if_true] at hok hre
        simp only [if_true] at hx
        split at hx
        · rename_i hpl
          rw [if_pos hpl] at hok hre
          have hre := hre rfl
          have good := Plot.good_of_ok hpl
          have hok:(II sm ((Ci (ops.toList.map Dk) os).sk.map (Lm os)) dom&&rOk (Ja ((Ci (ops.toList.map Dk) os).sk.map (Lm os)) dom))=true := hok
          rw [Bool.and_eq_true] at hok
          have run:∀ (b n0:K4), (E9 sm cf2 b ((Ci (ops.toList.map Dk) os).sk.map (Lm os)) env t' h h n0 (fun env t _ h n => rest env t h n)).sat Φ →
              ((Ci (ops.toList.map Dk) os).HasAl->b.d = .d0)->((Ci (ops.toList.map Dk) os).HasAl->n.toN≤b.toN)->((Ci (ops.toList.map Dk) os).HasAl->b.toN+16≤n0.toN)->n.toN≤n0.toN->(Code.region id ops true).wp P Q a w := fun b n0 hx k1 k2 k3 k4 => by
            obtain ⟨st, env1, t1', s0, hst, ri1, e3⟩ := Je h2 (s := ⟨t, h, h, n0⟩) hok.1 ri (R.sat_good hx)
            have e3:E9 sm cf2 b ((Ci (ops.toList.map Dk) os).sk.map (Lm os)) env t' h h n0 (fun env t _ h n => rest env t h n)=_ := e3
            rw [e3, List.length_map] at hx
            rw [List.length_map] at ri1
            have r:Rn P N ops os (Ci (ops.toList.map Dk) os) cf b st := ⟨good, hos, rfl, fun l x hlx => hst l _ (by rw [List.getElem?_map, hlx]; rfl)⟩
            refine SY (φ := φ) hρ hm hcf r s0 k1 k2 k3 k4 hT g fun φ' a' w' f1 g1 T1 => ?_
            exact hre _ env1 _ t1' _ _ hok.2 ri1 hx φ' a' w' f1 g1 T1
          have hx:(UF ((Ci (ops.toList.map Dk) os).sk.any SI.isAl) n (fun b n => E9 sm cf2 b ((Ci (ops.toList.map Dk) os).sk.map (Lm os)) env t' h h n fun env t _ h n => rest env t h n)).sat Φ := hx
          cases hal:(Ci (ops.toList.map Dk) os).sk.any SI.isAl with
          | false =>
            have hn := Ag0 good hal
            rw [hal] at hx
            exact run n n hx (fun h => absurd h hn) (fun h => absurd h hn) (fun h => absurd h hn) (Nat.le_refl _)
          | true =>
            rw [hal] at hx
            have hx:(n.nx16 (fun b => b.nx16 fun n0 => E9 sm cf2 b ((Ci (ops.toList.map Dk) os).sk.map (Lm os)) env t' h h n0 fun env t _ h n => rest env t h n)).sat Φ := hx
            rcases K4.nx16_eq n (fun b => b.nx16 fun n0 => E9 sm cf2 b ((Ci (ops.toList.map Dk) os).sk.map (Lm os)) env t' h h n0 fun env t _ h n => rest env t h n) with ⟨w', e1⟩ | ⟨b, hbn, hb0, e1⟩
            · rw [e1] at hx; exact hx.elim
            · rw [e1] at hx
              rcases K4.nx16_eq b (fun n0 => E9 sm cf2 b ((Ci (ops.toList.map Dk) os).sk.map (Lm os)) env t' h h n0 fun env t _ h n => rest env t h n) with ⟨w', e2⟩ | ⟨n0, hn0, _, e2⟩
              · rw [e2] at hx; exact hx.elim
              · rw [e2] at hx
                have hbn' := SN hbn hb0 hn0
                exact run b n0 hx (fun _ => hb0) (fun _ => hbn'.1) (fun _ => by omega) (by omega)
        · exact hx.elim
    | false =>
      have hok:Kq sm (match OV P N ops ops.toList with | some r => .spl r.1 r.2.1 r.2.2.1 r.2.2.2 | none => CJ P N ops false) rOk dom=true := hok
      have hx:(HS sm cf2 (match OV P N ops ops.toList with | some r => .spl r.1 r.2.1 r.2.2.1 r.2.2.2 | none => CJ P N ops false) rest env t' h n).sat Φ := hx
      have hre:AC.ends (match OV P N ops ops.toList with | some r => .spl r.1 r.2.1 r.2.2.1 r.2.2.2 | none => CJ P N ops false)=false->_ := hre
      cases hspl:OV P N ops ops.toList with
      | some r =>
        rw [hspl] at hok hx hre
        obtain ⟨pre, sp, d, post⟩ := r
        have hre := hre rfl
        obtain ⟨l1, o, l2, hl, c1, c2, c3, c4, c5⟩ := MF hspl
        have hok:(GX sm pre dom&&(Rl sm (CZ pre dom) sp&&(GX sm post (GO d (CZ pre dom))&&rOk (CZ post (GO d (CZ pre dom))))))=true := hok
        rw [Bool.and_eq_true, Bool.and_eq_true, Bool.and_eq_true] at hok
        obtain ⟨k1, k2, k3, k4⟩ := hok
        have hx:(DE sm cf2 pre env t' h n fun env t h n => Z2 cf2 sp (Bf sm env t) h n fun v h n => Dt sm d t v fun t => DE sm cf2 post (C2 d v env) t h n rest).sat Φ := hx
        obtain ⟨env1, t2, t2', h2', n2, e2, ri1, H⟩ := DP (B := B) (ops := ops) hρ hcf h2 c1 k1 ri (R.sat_good hx)
        rw [e2] at hx
        refine (wpIn_wide (n := 0)).1 (wpIn_region_list ?_)
        rw [hl]
        refine Em (l := none) (.inl rfl) (H φ a w hT g Q (wpListIn (Nr none) 0 P ops Q (o::l2)) fun φ' a' w' f1 g1 T1 => ?_)
        have one:∀ x:Opd, ER sm (CZ pre dom) x=true->∀ κ:V->R, Bf sm env1 t2' x κ=κ (ev x t2) := fun x hk κ => by
          cases x with
          | c v => rfl
          | t p => exact ri1.tell hk κ
        have lst:∀ l:List Opd, l.all (ER sm (CZ pre dom))=true->∀ κ:List V->R, Gz (Bf sm env1 t2') l κ=Gz (fun x κ => κ (ev x t2)) l κ := fun l hk κ => by
          rw [Gn (t := t2) (fun x hx => one x (List.all_eq_true.1 hk x hx)), Gn (t := t2) (fun x _ κ => rfl)]
        have et:Z2 cf2 sp (Bf sm env1 t2') h2' n2=Z2 cf2 sp (fun x κ => κ (ev x t2)) h2' n2 := by
          funext κ
          cases sp with
          | rng x => exact one x k2 _
          | nxt x => exact one x k2 _
          | ent x => exact one x k2 _
          | tcl f l => exact lst l k2 _
          | dcl x l =>
            have k2:(ER sm (CZ pre dom) x&&l.all (ER sm (CZ pre dom)))=true := k2
            rw [Bool.and_eq_true] at k2
            exact (one x k2.1 _).trans (lst l k2.2 _)
        rw [et] at hx
        have hw:Region.wanted o (yielded ops a'.tmps)=true := by simp [Region.wanted, c3]
        have st := Zv (P := P) (ρ := ρ) (B := B) hct hR h2 c2 _ Φ hx φ' a' w' T1 g1 (wpListIn (Nr none) 0 P ops Q l2) Q fun v h3 n3 hs φ2 x w2 f2 g2 r2 => by
          obtain ⟨t3', e3, ri3⟩ := ri1.put d v (fun t => DE sm cf2 post (C2 d v env1) t h3 n3 rest)
          have hs:(Dt sm d t2' v fun t => DE sm cf2 post (C2 d v env1) t h3 n3 rest).sat Φ := hs
          rw [e3] at hs
          obtain ⟨env4, t4, t4', h4, n4, e4, ri4, H4⟩ := DP (B := B) (ops := ops) hρ hcf h2 c5 k3 ri3 (R.sat_good hs)
          rw [e4] at hs
          have := Em (l := none) (n := 0) (r := []) (.inl rfl) (H4 φ2 _ w2 ((T1.mono f2.ext).puts c4 r2) g2 Q (wpListIn (Nr none) 0 P ops Q []) fun φ3 a3 w3 f3 g3 T3 => hre _ env4 t4 t4' h4 n4 k4 ri4 hs φ3 a3 w3 (Fr.trans f1 (Fr.trans f2 f3)) g3 T3)
          rwa [List.append_nil] at this
        show wpListIn (Nr none) 0 P ops Q (o::l2) a' w'
        simp only [wpListIn]
        rw [if_pos hw]
        exact st
      | none =>
      rw [hspl] at hok hx hre
      have hok:Kq sm (CJ P N ops false) rOk dom=true := hok
      have hx:(HS sm cf2 (CJ P N ops false) rest env t' h n).sat Φ := hx
      have hre:(CJ P N ops false).ends=false->_ := hre
      unfold CJ at hok hx hre
      split at hx
      · exact hx.elim
      · rename_i al hal
        simp only [hal, Bool.false_eq_true, if_false] at hok hre
        simp only [Bool.false_eq_true, if_false] at hx
        have hre := hre rfl
        have hok:(GX sm al dom&&rOk (CZ al dom))=true := hok
        rw [Bool.and_eq_true] at hok
        have hx:(DE sm cf2 al env t' h n rest).sat Φ := hx
        obtain ⟨env1, t2, t2', h2', n2, e2, ri1, H⟩ := QR (B := B) (ops := ops) hρ hcf h2 hal hok.1 ri (R.sat_good hx)
        rw [e2] at hx
        exact wp_region_list (H φ a w hT g Q fun φ' a' w' f1 g1 T1 => hre _ env1 t2 t2' h2' n2 hok.2 ri1 hx φ' a' w' f1 g1 T1)
  | seq x y ihx ihy =>
    intro rest rOk dom env t t' h n Φ hok ri hx φ a w hT g Q hex hre
    have hok:Kq sm (B1 P N x) (Kq sm (B1 P N y) rOk) dom=true := hok
    have hx:(HS sm cf2 (B1 P N x) (HS sm cf2 (B1 P N y) rest) env t' h n).sat Φ := hx
    have hre:or (B1 P N x).ends (B1 P N y).ends=false->_ := hre
    refine wp_seq (ihx _ _ dom env t t' h n Φ hok ri hx φ a w hT g _ (fun e t1 h1 n1 hΦ hne φ' a' w' tf f1 g1 T1 hk => ?_) fun he dom2 env2 t2 t2' h2' n2 hok2 ri2 hr φ2 a2 w2 f2 g2 T2 => ?_)
    · have := hex e t1 h1 n1 hΦ hne φ' a' w' tf f1 g1 T1 hk
      cases e with
      | nrm => exact absurd rfl hne
      | exit id => exact this
      | ret => exact this
    · exact ihy rest rOk dom2 env2 t2 t2' h2' n2 Φ hok2 ri2 hr φ2 a2 w2 T2 g2 Q (fun e t1 h1 n1 hΦ hne φ' a' w' tf f1 g1 T1 hk => hex e t1 h1 n1 hΦ hne φ' a' w' tf (Fr.trans f2 f1) g1 T1 hk)
        fun he' dom3 env3 t3 t3' h3 n3 hok3 ri3 hr3 φ3 a3 w3 f3 g3 T3 => hre (by rw [he, he']; rfl) dom3 env3 t3 t3' h3 n3 hok3 ri3 hr3 φ3 a3 w3 (Fr.trans f2 f3) g3 T3
  | cond c x y ihx ihy =>
    intro rest rOk dom env t t' h n Φ hok ri hx φ a w hT g Q hex hre
    have hok:Kq sm (match AB N c with | some c => .cond c (B1 P N x) (B1 P N y) | none => .bad "a test") rOk dom=true := hok
    have hx:(HS sm cf2 (match AB N c with | some c => .cond c (B1 P N x) (B1 P N y) | none => .bad "a test") rest env t' h n).sat Φ := hx
    have hre:AC.ends (match AB N c with | some c => .cond c (B1 P N x) (B1 P N y) | none => .bad "a test")=false->_ := hre
    split at hx
    · rename_i c' hc
      simp only [hc] at hok hre
      have hre:and (B1 P N x).ends (B1 P N y).ends=false->_ := hre
      have hok:(ER sm dom c'&&br (B1 P N x).ends (Kq sm (B1 P N x) (fun _ => true) dom&&Kq sm (B1 P N y) rOk dom) (br (B1 P N y).ends (Kq sm (B1 P N x) rOk dom&&Kq sm (B1 P N y) (fun _ => true) dom) (Kq sm (B1 P N x) (fun _ => true) dom&&(Kq sm (B1 P N y) (fun _ => true) dom&&rOk []))))=true := hok
      rw [Bool.and_eq_true] at hok
      have hx:(Bf sm env t' c' (fun v => VU (B1 P N x).ends (B1 P N y).ends v (HS sm cf2 (B1 P N x)) (HS sm cf2 (B1 P N y)) rest env t' h n)).sat Φ := hx
      have e0:∀ κ:V->R, Bf sm env t' c' κ=κ (ev c' t) := fun κ => by
        cases c' with
        | c v => rfl
        | t p => exact ri.tell hok.1 κ
      rw [e0] at hx
      have g1 := Ad hc hT
      generalize hv:ev c' t=v at hx g1
      obtain ⟨_, hok⟩ := hok
      unfold VU at hx
      -- the value is a bool
      have key:∀ (A C:R) (κ:R->R), (∀ s, κ (.fail s) = .fail s)->(∀ x y, κ (.both x y) = .both (κ x) (κ y))->(κ (BM v A C)).sat Φ->∃ q, a.eval c = .bool q∧(κ (br q A C)).sat Φ := fun A C κ hκ hb hh => by
        have no:(κ (.fail "")).sat Φ->∃ q, a.eval c = .bool q∧(κ (br q A C)).sat Φ := fun hh => by rw [hκ] at hh; exact hh.elim
        cases v with
        | bool q => exact ⟨q, EJ g1, by cases q <;> exact hh⟩
        | oth o => cases o with
          | bl =>
            have g1 := g1
            simp only [Ap] at g1
            obtain ⟨q, hq⟩ := g1
            have hh:(κ (.both A C)).sat Φ := hh
            rw [hb] at hh
            exact ⟨q, hq, by cases q; exact hh.2; exact hh.1⟩
          | _ => exact no hh
        | _ => exact no hh
      cases hex':(B1 P N x).ends with
      | true =>
        rw [hex'] at hx hok hre
        have hok:(Kq sm (B1 P N x) (fun _ => true) dom&&Kq sm (B1 P N y) rOk dom)=true := hok
        rw [Bool.and_eq_true] at hok
        obtain ⟨q, hq, hx⟩ := key _ _ id (fun _ => rfl) (fun _ _ => rfl) hx
        refine wp_cond hq ?_
        cases q with
        | true => exact ihx r0 _ dom env t t' h n Φ hok.1 ri hx φ a w hT g Q hex fun he => by rw [hex'] at he; cases he
        | false => exact ihy rest rOk dom env t t' h n Φ hok.2 ri hx φ a w hT g Q hex fun he => hre (by rw [he]; rfl)
      | false =>
        rw [hex'] at hx hok hre
        have hre := hre rfl
        cases hey:(B1 P N y).ends with
        | true =>
          rw [hey] at hx hok
          have hok:(Kq sm (B1 P N x) rOk dom&&Kq sm (B1 P N y) (fun _ => true) dom)=true := hok
          rw [Bool.and_eq_true] at hok
          obtain ⟨q, hq, hx⟩ := key _ _ id (fun _ => rfl) (fun _ _ => rfl) hx
          refine wp_cond hq ?_
          cases q with
          | true => exact ihx rest rOk dom env t t' h n Φ hok.1 ri hx φ a w hT g Q hex fun _ => hre
          | false => exact ihy r0 _ dom env t t' h n Φ hok.2 ri hx φ a w hT g Q hex fun he => by rw [hey] at he; cases he
        | false =>
          rw [hey] at hx hok
          have hok:(Kq sm (B1 P N x) (fun _ => true) dom&&(Kq sm (B1 P N y) (fun _ => true) dom&&rOk []))=true := hok
          rw [Bool.and_eq_true, Bool.and_eq_true] at hok
          obtain ⟨q, hq, hx⟩ := key _ _ (fun r => C9 r fun t h n => rest [] t h n) (fun _ => rfl) (fun _ _ => rfl) hx
          refine wp_cond hq ?_
          have fin:∀ (Z:Code), US P ρ B N sm Z t h n (Vf (fun t h n => rest [] t h n) Φ)->Z.wp P Q a w := fun Z HZ => by
            refine HZ φ a w hT g Q fun e0 t0 h0 n0 hj φ' a' w' tf f1 g1 T1 hk => ?_
            cases e0 with
            | nrm => exact hre [] [] tf t0 h0 n0 hok.2.2 (RI.start ri.inj hk) hj φ' a' w' f1 g1 T1
            | exit id => exact hex _ _ _ _ hj (fun h => by cases h) φ' a' w' tf f1 g1 T1 hk
            | ret => exact hex _ _ _ _ hj (fun h => by cases h) φ' a' w' tf f1 g1 T1 hk
          cases q with
          | true => exact fin x (ihx.join hok.1 ri (HN hx))
          | false => exact fin y (ihy.join hok.2.1 ri (HN hx))
    · exact hx.elim
  | block id b ih =>
    intro rest rOk dom env t t' h n Φ hok ri hx φ a w hT g Q hex hre
    have hok:(Kq sm (B1 P N b) (fun _ => true) dom&&rOk [])=true := hok
    rw [Bool.and_eq_true] at hok
    have hx:(Ao id (HS sm cf2 (B1 P N b) r0 env t' h n) (fun t h n => rest [] t h n)).sat Φ := hx
    have hre := hre rfl
    refine wp_block (ih.join hok.1 ri (Il hx) φ a w hT g _ fun e0 t0 h0 n0 hx φ' a' w' tf f1 g1 T1 hk => ?_)
    cases e0 with
    | nrm => exact hre [] [] tf t0 h0 n0 hok.2 (RI.start ri.inj hk) hx φ' a' w' f1 g1 T1
    | exit j =>
      show (if j=id then Q .normal a' w' else Q (.exit j) a' w')
      rcases hx with ⟨hj, hx⟩ | ⟨hj, hx⟩
      · rw [if_pos hj]; exact hre [] [] tf t0 h0 n0 hok.2 (RI.start ri.inj hk) hx φ' a' w' f1 g1 T1
      · rw [if_neg hj]; exact hex _ _ _ _ hx (fun h => by cases h) φ' a' w' tf f1 g1 T1 hk
    | ret => exact hex _ _ _ _ hx (fun h => by cases h) φ' a' w' tf f1 g1 T1 hk
  | loop b ih =>
    intro rest rOk dom env t t' h n Φ hok ri hx φ a w hT g Q hex hre
    have hok:Kq sm (B1 P N b) (fun _ => true) []=true := hok
    have hx:(DH (fun t h n => HS sm cf2 (B1 P N b) r0 [] t h n) 1000000000 t' h n).sat Φ := hx
    refine wp_loop_rounds 1000000000 ?_
    have key:∀ (k:Nat) (t:Regs) (t':S) (h:Heap) (n:K4), (∀ p s, CB p sm=some s->S.get s t'=B8 p t)->(DH (fun t h n => HS sm cf2 (B1 P N b) r0 [] t h n) k t' h n).sat Φ->∀ φ a w, TR ρ N φ t a->Gam ρ B h n φ w →
        (∀ e t1 h1 n1, Φ (.ok e t1 h1 n1)->e ≠ .nrm->∀ φ' a' w' tf, Fr h h1 φ φ' n n1 w w'->Gam ρ B h1 n1 φ' w'->TR ρ N φ' tf a'->(∀ p s, CB p sm=some s->S.get s t1=B8 p tf)->Q (QB e) a' w')->Code.rounds P b Q k a w := by
      intro k
      induction k with
      | zero => intro t t' h n _ hx; exact hx.elim
      | succ k ihk =>
        intro t t' h n hk0 hx φ a w hT g hQ
        refine ih.join hok (RI.start ri.inj hk0) (WL hx) φ a w hT g _ fun e0 t0 h0 n0 hx φ' a' w' tf f1 g1 T1 hk => ?_
        cases e0 with
        | nrm => exact ihk tf t0 h0 n0 hk hx φ' a' w' T1 g1 fun e t1 h1 n1 hΦ hne φ2 a2 w2 tf2 f2 g2 T2 hk2 => hQ e t1 h1 n1 hΦ hne φ2 a2 w2 tf2 (Fr.trans f1 f2) g2 T2 hk2
        | exit id => exact hQ _ _ _ _ hx (fun h => by cases h) φ' a' w' tf f1 g1 T1 hk
        | ret => exact hQ _ _ _ _ hx (fun h => by cases h) φ' a' w' tf f1 g1 T1 hk
    exact key _ t t' h n ri.keep hx φ a w hT g hex
  | rangeFunc _ _ _ _ => intro rest rOk dom env t t' h n Φ hok ri hx; exact hx.elim
  | scope _ => intro rest rOk dom env t t' h n Φ hok ri hx; exact hx.elim
  | goto _ => intro rest rOk dom env t t' h n Φ hok ri hx; exact hx.elim
  | refuse _ => intro rest rOk dom env t t' h n Φ hok ri hx; exact hx.elim
end
end Go.Ev

namespace Go.Ev
set_option linter.unusedVariables false
def YA (v:V):List K4->List K4 :=
  @V.rec (fun _ => List K4->List K4) (fun _ => List K4->List K4)
    (fun _ _ a => a) (fun _ a => a) (fun p _ a => p::a) (fun p _ _ _ _ _ a => p::a) (fun _ _ a => a) (fun _ ih a => ih a) (fun _ a => a) (fun p a => p::a) (fun _ _ ih a => ih a) (fun _ ih a => ih a) (fun _ a => a)
    (fun a => a) (fun _ _ ihx ihl a => ihx (ihl a)) v
def Yj (l:List V) (a:List K4):List K4 := @List.rec V (fun _ => List K4) a (fun v _ ih => YA v ih) l
def Adt (es:List (V×V)) (a:List K4):List K4 := @List.rec (V×V) (fun _ => List K4) a (fun e _ ih => @Prod.rec V V (fun _ => List K4) (fun x y => YA x (YA y ih)) e) es
def Vi (o:Ob) (a:List K4):List K4 :=
  @Ob.rec (fun _ => List K4) (fun cs _ _ => @Cs.rec (fun _ => List K4) (fun xs => Yj xs a) (fun _ _ => a) cs) (fun es _ _ => Adt es a) (fun _ _ _ _ => a) a (fun _ _ => a) o
/-- An object that may be run on. -/
def Ir (o:Ob):Bool := @Ob.rec (fun _ => Bool) (fun _ sup _ => @Bool.rec (fun _ => Bool) true false sup) (fun _ _ _ => true) (fun _ _ _ _ => false) false (fun _ _ => false) o
/-- An object without its tie to an elder one. -/
def Oc (o:Ob):Ob := @Ob.rec (fun _ => Ob) (fun cs sup _ => .c cs sup none) (fun es bs c => .m es bs c) (fun p s l c => .it p s l c) .it0 (fun f b => .lp f b) o
theorem Tr (o:Ob):C7 (Oc o)=none := by cases o <;> rfl
theorem Ww {ρ:Env} {φ:AO} {w:World} {o:Ob} {b s tot:Nat} (h:GU ρ φ w o b s tot):GU ρ φ w (Oc o) b s tot := by cases o <;> exact h
/-- The objects that are reached. -/
def Eg (h:Heap) (k:Nat):List K4->Heap->List K4->(Heap->List K4->R)->R :=
  @Nat.rec (fun _ => List K4->Heap->List K4->(Heap->List K4->R)->R) (fun _ hs acc κ => κ hs acc)
    (fun _ ih todo hs acc κ => @List.rec K4 (fun _ => R) (κ hs acc) (fun p todo _ => Be p hs fun o => @Option.rec Ob (fun _ => R)
      (Be p h fun o => @Option.rec Ob (fun _ => R) (ih todo hs acc κ) (fun ob => br (Ir ob) (BN p hs (some (Oc ob)) fun hs => ih (Vi ob todo) hs (p::acc) κ) (ih todo hs acc κ)) o)
      (fun _ => ih todo hs acc κ) o) todo) k
def Oj (p n:K4):Bool := Nat.ble (Nat.succ p.toN) n.toN
def FF (n:K4) (v:V):Bool :=
  @V.rec (fun _ => Bool) (fun _ => Bool)
    (fun _ _ => true) (fun _ => true) (fun p _ => Oj p n) (fun p _ _ _ _ _ => Oj p n) (fun _ _ => true) (fun _ ih => ih) (fun _ => true) (fun p => Oj p n) (fun _ _ ih => ih) (fun _ ih => ih) (fun o => @Ot.rec (fun _ => Bool) true (fun _ => true) (fun p => Oj p n) false (fun _ _ _ => true) (fun _ _ => true) true (fun _ _ => true) (fun _ _ _ _ => true) (fun _ _ _ _ => true) (fun _ _ _ => true) (fun _ _ => true) (fun _ _ => true) (fun _ _ _ => true) (fun _ => true) o)
    true (fun _ _ ihx ihl => br ihx ihl false) v
def Le (n:K4) (l:List V):Bool := FF n (.tup l)
def Lc (p:Option K4) (κ:R):R := @Option.rec K4 (fun _ => R) κ (AQ "") p
def QZ (n:K4) (a b:Cs) (κ:R):R :=
  @Cs.rec (fun _ => R) (fun xs => @Cs.rec (fun _ => R) (fun ys => br (Le n xs) (Bl (.tup xs) (.tup ys) κ) (.fail "")) (Ax "") b)
    (fun m c => @Cs.rec (fun _ => R) (AQ "") (fun m' c' => br (Nat.beq m m') (br (Nat.beq c c') κ (.fail "")) (.fail "")) b) a
def KP (n:K4) (a:List (V×V)):List (V×V)->R->R :=
  @List.rec (V×V) (fun _ => List (V×V)->R->R) (fun b κ => @List.rec (V×V) (fun _ => R) κ (C4 "") b)
    (fun e _ ih b κ => @List.rec (V×V) (fun _ => R) (.fail "") (fun e' b _ => @Prod.rec V V (fun _ => R) (fun x y => @Prod.rec V V (fun _ => R) (fun x' y' => br (FF n x) (br (FF n y) (Bl x x' (Bl y y' (ih b κ))) (.fail "")) (.fail "")) e') e) b) a
def Lz (a:List Nat):List Nat->R->R :=
  @List.rec Nat (fun _ => List Nat->R->R) (fun b κ => @List.rec Nat (fun _ => R) κ (C4 "") b)
    (fun x _ ih b κ => @List.rec Nat (fun _ => R) (.fail "") (fun y b _ => br (Nat.beq x y) (ih b κ) (.fail "")) b) a
def RR (n:K4) (a b:Ob) (κ:R):R :=
  @Ob.rec (fun _ => R) (fun cs sup prev => br sup (.fail "") (Lc prev (@Ob.rec (fun _ => R) (fun cs' sup' prev' => br sup' (.fail "") (Lc prev' (QZ n cs cs' κ))) (C4 "") (Fh "") (.fail "") (Ax "") b)))
    (fun es bs c => @Ob.rec (fun _ => R) (C4 "") (fun es' bs' c' => br (Nat.beq c c') (Lz bs bs' (KP n es es' κ)) (.fail "")) (Fh "") (.fail "") (Ax "") b) (Fh "") (.fail "") (Ax "") a
def Hb (n:K4) (a b:Ch) (κ:R):R :=
  @Option.rec Ob (fun _ => R) (@Option.rec Ob (fun _ => R) κ (AQ "") b) (fun x => @Option.rec Ob (fun _ => R) (.fail "") (fun y => RR n x y κ) b) a
def GJ (n:K4) (h1 h':Heap) (acc:List K4) (κ:R):R :=
  @List.rec K4 (fun _ => R) κ (fun p _ ih => Be p h1 fun a => Be p h' fun b => Hb n a b ih) acc
/-- Without the tie to memory that is new too. -/
def ZJ (n:K4) (p:Option K4):Option K4 := @Option.rec K4 (fun _ => Option K4) none (fun q => @Bool.rec (fun _ => Option K4) none (some q) (Oj q n)) p
def Jv (n:K4) (o:Ch):Ch := @Option.rec Ob (fun _ => Ch) none (fun o => some (@Ob.rec (fun _ => Ob) (fun cs sup prev => .c cs sup (ZJ n prev)) (fun es bs c => .m es bs c) (fun p s l c => .it p s l c) .it0 (fun f b => .lp f b) o)) o
/-- The results: alike, and nothing new in them; or two new slices that are alike. -/
def IC (n:K4) (v1:V) (h1:Heap) (v':V) (h':Heap) (κ:R):R :=
  br (FF n v1) (Bl v1 v' κ) (Ei v1 (.fail "") fun p off len cap ex esz => Ei v' (.fail "") fun p' off' len' cap' ex' esz' =>
    br (Oj p n) (.fail "") (br (Oj p' n) (.fail "") (Bl (.sl p off len cap ex esz) (.sl p off' len' cap' ex' esz') (Be p h1 fun a => Be p' h' fun b => Hb n (Jv n a) (Jv n b) κ))))
def QY (r:R):(V->Heap->R)->R :=
  @R.rec (fun _ => (V->Heap->R)->R) (fF5 "") (fun v h _ κ => κ v h) (fun w _ => .fail w) (fun _ _ iha _ κ => iha κ) r
def We (a b:K4) (κ:K4->R):R := br (Nat.ble a.toN b.toN) (κ b) (κ a)
def TZ (n:K4) (v1:V) (h1:Heap) (acc:List K4) (r:R):K4->(K4->R)->R :=
  @R.rec (fun _ => K4->(K4->R)->R) (DX "") (fun v h m mx κ => IC n v1 h1 v h (GJ n h1 h acc (We m mx κ))) (fun w _ _ => .fail w) (fun _ _ iha ihb mx κ => iha mx fun mx => ihb mx κ) r
def RX (o:Ob) (h:Heap) (κ:Heap->R):R := @Ob.rec (fun _ => R) (fun _ _ prev => @Option.rec K4 (fun _ => R) (κ h) (fun q => BN q h none κ) prev) (fun _ _ _ => κ h) (fun _ _ _ _ => κ h) (κ h) (fun _ _ => κ h) o
def OX (h h1:Heap) (acc:List K4):(Heap->R)->R :=
  @List.rec K4 (fun _ => (Heap->R)->R) (fun κ => κ h)
    (fun p _ ih κ => ih fun hf => Be p h fun o => @Option.rec Ob (fun _ => R) (.fail "") (fun o => RX o hf fun hf => Be p h1 fun o1 => BN p hf o1 κ) o) acc
def YL (n:K4) (v1:V) (h1 hf:Heap) (m:K4):R :=
  br (FF n v1) (.rv v1 hf m) (Ei v1 (.fail "") fun p off len cap ex esz => Be p h1 fun o => @Option.rec Ob (fun _ => R) (.fail "") (fun ob => BN m hf (some ob) fun hf => m.nx fun m' => .rv (.sl m off len cap ex esz) hf m') (Jv n o))
def YQ (n:K4) (h:Heap) (acc:List K4) (r:R):R :=
  QY r fun v1 h1 => TZ n v1 h1 acc r n fun m => OX h h1 acc fun hf => YL n v1 h1 hf m
def brK (k:Nat) (run:Heap->R) (args:List V) (h:Heap) (n:K4):R :=
  Eg h k (Yj args []) AN [] fun hs acc => YQ n h acc (run hs)
section
variable {P:Program} {ρ:Env} {B:Nat}
structure Sub (h hs:Heap) (acc:List K4):Prop where
  sub:∀ p o, A9 p hs=some o->∃ o0, A9 p h=some o0∧o=Oc o0∧Ir o0=true∧p∈acc
  has:∀ p, p∈acc->∃ o, A9 p hs=some o
theorem Sub.mem {h hs:Heap} {acc:List K4} (s:Sub h hs acc) {p:K4} {o:Ob} (hp:A9 p hs=some o):p∈acc := by
  obtain ⟨_, _, _, _, m⟩ := s.sub p o hp; exact m
theorem Sub.in_h {h hs:Heap} {acc:List K4} (s:Sub h hs acc) {p:K4} {o:Ob} (hp:A9 p hs=some o):∃ o0, A9 p h=some o0 := by
  obtain ⟨o0, e, _⟩ := s.sub p o hp; exact ⟨o0, e⟩
theorem Gi {h:Heap}:∀ (k:Nat) {todo:List K4} {hs:Heap} {acc:List K4} {κ:Heap->List K4->R}, Sub h hs acc->∃ hs' acc', Sub h hs' acc'∧Eg h k todo hs acc κ=κ hs' acc'
  | 0, todo, hs, acc, κ, s => ⟨hs, acc, s, rfl⟩
  | k+1, [], hs, acc, κ, s => ⟨hs, acc, s, rfl⟩
  | k+1, p::todo, hs, acc, κ, s => by
    have e:Eg h (k+1) (p::todo) hs acc κ=Be p hs fun o => @Option.rec Ob (fun _ => R)
      (Be p h fun o => @Option.rec Ob (fun _ => R) (Eg h k todo hs acc κ) (fun ob => br (Ir ob) (BN p hs (some (Oc ob)) fun hs => Eg h k (Vi ob todo) hs (p::acc) κ) (Eg h k todo hs acc κ)) o)
      (fun _ => Eg h k todo hs acc κ) o := rfl
    rw [e, Bi]
    cases h1:A9 p hs with
    | some o => exact Gi k s
    | none =>
      show ∃ hs' acc', Sub h hs' acc'∧(Be p h fun o => @Option.rec Ob (fun _ => R) (Eg h k todo hs acc κ) (fun ob => br (Ir ob) (BN p hs (some (Oc ob)) fun hs => Eg h k (Vi ob todo) hs (p::acc) κ) (Eg h k todo hs acc κ)) o)=κ hs' acc'
      rw [Bi]
      cases h2:A9 p h with
      | none => exact Gi k s
      | some ob =>
        show ∃ hs' acc', Sub h hs' acc'∧br (Ir ob) (BN p hs (some (Oc ob)) fun hs => Eg h k (Vi ob todo) hs (p::acc) κ) (Eg h k todo hs acc κ)=κ hs' acc'
        cases h3:Ir ob with
        | false => exact Gi k s
        | true =>
          show ∃ hs' acc', Sub h hs' acc'∧(BN p hs (some (Oc ob)) fun hs => Eg h k (Vi ob todo) hs (p::acc) κ)=κ hs' acc'
          rw [BP, AT]
          refine Gi k ⟨fun q o hq => ?_, fun q hq => ?_⟩
          · rcases BQ hq with ⟨rfl, e⟩ | ⟨hne, hq⟩
            · cases e; exact ⟨ob, h2, rfl, h3, List.mem_cons_self ..⟩
            · obtain ⟨o0, a, e, b, c⟩ := s.sub q o hq; exact ⟨o0, a, e, b, List.mem_cons_of_mem _ c⟩
          · by_cases e:p=q
            · subst e; exact ⟨Oc ob, A6 _ _ _⟩
            · rw [A8 _ _ e]
              rcases List.mem_cons.1 hq with e' | hq
              · exact absurd e'.symm e
              · exact s.has q hq
theorem Sub.nil {h:Heap}:Sub h AN [] := ⟨fun p o hp => (by rw [EE] at hp; cases hp), fun p hp => (by simp at hp)⟩
theorem GN {p n:K4}:Oj p n=true ↔ p.toN<n.toN := by unfold Oj; rw [Ab]; omega
mutual
theorem Fb {n:K4} {φ1 φ2:AO} (hφ:∀ p x, p.toN<n.toN->φ1 p=some x->φ2 p=some x):∀ {v:V} {x:Value}, FF n v=true->Ap ρ φ1 v x->Ap ρ φ2 v x
  | .int _ _, _, _, r => by simpa only [Ap] using r
  | .bool _, _, _, r => by simpa only [Ap] using r
  | .ptr p _, _, ho, r => by
    have ho:Oj p n=true := ho
    simp only [Ap] at r ⊢
    obtain ⟨b, s, tot, hp, e⟩ := r
    exact ⟨b, s, tot, hφ _ _ (GN.1 ho) hp, e⟩
  | .sl p _ _ _ _ _, _, ho, r => by
    have ho:Oj p n=true := ho
    simp only [Ap] at r ⊢
    obtain ⟨b, s, tot, o, c, hp, e⟩ := r
    exact ⟨b, s, tot, o, c, hφ _ _ (GN.1 ho) hp, e⟩
  | .str _ _, _, _, r => by simpa only [Ap] using r
  | .agg l, _, ho, r => by
    have ho:Le n l=true := ho
    simp only [Ap] at r ⊢
    obtain ⟨cs, e, hl, hh⟩ := r
    exact ⟨cs, e, GP hφ ho hl, hh⟩
  | .nil _, _, _, r => by simpa only [Ap] using r
  | .map p, _, ho, r => by
    have ho:Oj p n=true := ho
    simp only [Ap] at r ⊢
    obtain ⟨b, s, tot, hp, e⟩ := r
    exact ⟨b, s, tot, hφ _ _ (GN.1 ho) hp, e⟩
  | .fn _ l, _, ho, r => by
    have ho:Le n l=true := ho
    simp only [Ap] at r ⊢
    obtain ⟨cs, e, hl⟩ := r
    exact ⟨cs, e, GP hφ ho hl⟩
  | .tup l, _, ho, r => by
    have ho:Le n l=true := ho
    simp only [Ap] at r ⊢
    obtain ⟨cs, e, hl⟩ := r
    exact ⟨cs, e, GP hφ ho hl⟩
  | .oth o, _, ho, r => by
    cases o with
    | yl p =>
      have ho:Oj p n=true := ho
      simp only [Ap] at r ⊢
      obtain ⟨b, s, tot, hp, e⟩ := r
      exact ⟨b, s, tot, hφ _ _ (GN.1 ho) hp, e⟩
    | _ => simp only [Ap] at r ⊢ <;> exact r
theorem GP {n:K4} {φ1 φ2:AO} (hφ:∀ p x, p.toN<n.toN->φ1 p=some x->φ2 p=some x):∀ {l:List V} {xs:List Value}, Le n l=true->BL ρ φ1 l xs->BL ρ φ2 l xs
  | [], _, _, r => by simpa only [BL] using r
  | v::l, _, ho, r => by
    have ho:br (FF n v) (Le n l) false=true := ho
    simp only [BL] at r ⊢
    obtain ⟨y, ys, e, hy, hys⟩ := r
    cases h1:FF n v with
    | false => rw [h1] at ho; cases ho
    | true =>
      rw [h1] at ho
      exact ⟨y, ys, e, Fb hφ h1 hy, GP hφ ho hys⟩
end
theorem P0 {n:K4}:∀ {l:List V}, Le n l=true->∀ v∈l, FF n v=true
  | [], _, v, hv => by simp at hv
  | x::l, ho, v, hv => by
    have ho:br (FF n x) (Le n l) false=true := ho
    cases h1:FF n x with
    | false => rw [h1] at ho; cases ho
    | true =>
      rw [h1] at ho
      rcases List.mem_cons.1 hv with e | hv
      · subst e; exact h1
      · exact P0 (show Le n l=true from ho) v hv
/-- An object that names nothing new, and shares its memory with no other. -/
def Kh (n:K4):Ob->Prop
  | .c (.l xs) sup prev => Le n xs=true∧sup=false∧prev=none
  | .c (.b _ _) sup prev => sup=false∧prev=none
  | .m es _ _ => ∀ e∈es, FF n e.1=true∧FF n e.2=true
  | _ => False
theorem Kh.prev {n:K4} {o:Ob} (h:Kh n o):C7 o=none := by
  cases o with
  | c cs sup prev => cases cs with
    | l xs => exact h.2.2
    | b m c => exact h.2
  | m es bs c => rfl
  | it _ _ _ _ => exact h.elim
  | it0 => exact h.elim
  | lp _ _ => exact h.elim
theorem Kh.sup {n:K4} {o:Ob} (h:Kh n o):K9 o=false := by
  cases o with
  | c cs sup prev => cases cs with
    | l xs => exact h.2.1
    | b m c => exact h.1
  | m es bs c => rfl
  | it _ _ _ _ => exact h.elim
  | it0 => exact h.elim
  | lp _ _ => exact h.elim
theorem T5 {n:K4} {o:Ch} {ob:Ob} (h:Jv n o=some ob):∃ obr, o=some obr∧(C7 ob=none->∀ q, C7 obr=some q->n.toN≤q.toN) ∧ ∀ {φ:AO} {w:World} {b s tot:Nat}, GU ρ φ w obr b s tot->GU ρ φ w ob b s tot := by
  cases o with
  | none => cases h
  | some obr =>
    refine ⟨obr, rfl, ?_⟩
    cases obr with
    | c cs sup prev =>
      have h:some (Ob.c cs sup (ZJ n prev))=some ob := h
      cases h
      refine ⟨fun hp q hq => ?_, fun k => k⟩
      have hq:prev=some q := hq
      subst hq
      have hp:@Bool.rec (fun _ => Option K4) none (some q) (Oj q n)=none := hp
      cases hl:Oj q n with
      | true => rw [hl] at hp; cases hp
      | false =>
        rcases Nat.lt_or_ge q.toN n.toN with h | h
        · rw [GN.2 h] at hl; cases hl
        · exact h
    | m _ _ _ => cases h; exact ⟨fun _ q hq => (by cases hq), fun k => k⟩
    | it _ _ _ _ => cases h; exact ⟨fun _ q hq => (by cases hq), fun k => k⟩
    | it0 => cases h; exact ⟨fun _ q hq => (by cases hq), fun k => k⟩
    | lp _ _ => cases h; exact ⟨fun _ q hq => (by cases hq), fun k => k⟩
theorem KI {n:K4} {φ1 φ2:AO} (hφ:∀ p x, p.toN<n.toN->φ1 p=some x->φ2 p=some x) {w:World} {o:Ob} {b s tot:Nat} (ho:Kh n o) (k:GU ρ φ1 w o b s tot):GU ρ φ2 w o b s tot := by
  cases o with
  | c cs sup prev =>
    obtain ⟨c, e, fr, h1, h2, h3, h4, h5⟩ := k
    refine ⟨c, e, fr, h1, h2, h3, h4, fun i v hv => ?_⟩
    obtain ⟨x, k1, k2, k3⟩ := h5 i v hv
    refine ⟨x, k1, ?_, k3⟩
    cases cs with
    | l xs => exact Fb hφ (P0 ho.1 v (List.mem_of_getElem? hv)) k2
    | b m c =>
      by_cases hi:i<m
      · rw [Cs.b_pos hi] at hv; cases hv; exact Fb hφ rfl k2
      · rw [Cs.b_neg hi] at hv; cases hv
  | m es bs clk =>
    obtain ⟨ents, h1, h2, h3⟩ := k
    refine ⟨ents, h1, ?_, h3⟩
    have ho':∀ e∈es, FF n e.1=true∧FF n e.2=true := ho
    clear h1 h3 ho
    generalize ents.toList=l at h2
    induction es generalizing l with
    | nil => exact h2
    | cons e es ih =>
      obtain ⟨y, ys, rfl, k1, k2, k3⟩ := h2
      obtain ⟨o1, o2⟩ := ho' e (List.mem_cons_self ..)
      exact ⟨y, ys, rfl, Fb hφ o1 k1, Fb hφ o2 k2, ih (fun e he => ho' e (List.mem_cons_of_mem _ he)) _ k3⟩
  | it _ _ _ _ => exact ho.elim
  | it0 => exact ho.elim
  | lp _ _ => exact ho.elim
theorem LF {p:Option K4} {κ:R} (h:(Lc p κ).good):p=none∧Lc p κ=κ := by
  cases p with
  | none => exact ⟨rfl, rfl⟩
  | some q => exact h.elim
theorem JY:∀ {a b:List Nat} {κ:R}, (Lz a b κ).good->a=b∧Lz a b κ=κ
  | [], [], κ, _ => ⟨rfl, rfl⟩
  | [], _::_, κ, h => h.elim
  | _::_, [], κ, h => h.elim
  | x::a, y::b, κ, h => by
    have h:R.good (br (Nat.beq x y) (Lz a b κ) (.fail "")) := h
    obtain ⟨h1, e1⟩ := Af h
    rw [e1] at h
    obtain ⟨h2, e2⟩ := JY h
    exact ⟨by rw [Nat.eq_of_beq_eq_true h1, h2], Eq.trans e1 e2⟩
theorem JS {n:K4}:∀ {a b:List (V×V)} {κ:R}, (KP n a b κ).good->a=b∧(∀ e∈a, FF n e.1=true∧FF n e.2=true)∧KP n a b κ=κ
  | [], [], κ, _ => ⟨rfl, fun e he => by simp at he, rfl⟩
  | [], _::_, κ, h => h.elim
  | _::_, [], κ, h => h.elim
  | (x, y)::a, (x', y')::b, κ, h => by
    have h:R.good (br (FF n x) (br (FF n y) (Bl x x' (Bl y y' (KP n a b κ))) (.fail "")) (.fail "")) := h
    obtain ⟨h1, e1⟩ := Af h
    rw [e1] at h
    obtain ⟨h2, e2⟩ := Af h
    rw [e2] at h
    obtain ⟨h3, e3⟩ := El h
    rw [e3] at h
    obtain ⟨h4, e4⟩ := El h
    rw [e4] at h
    obtain ⟨h5, h6, e5⟩ := JS h
    refine ⟨by rw [h3, h4, h5], fun e he => ?_, Eq.trans e1 (e2.trans (e3.trans (e4.trans e5)))⟩
    rcases List.mem_cons.1 he with e' | he
    · subst e'; exact ⟨h1, h2⟩
    · exact h6 e he
theorem Qo {n:K4} {a b:Ob} {κ:R} (h:(RR n a b κ).good):a=b∧Kh n a∧RR n a b κ=κ := by
  cases a with
  | c cs sup prev =>
    have h0:R.good (br sup (.fail "") (Lc prev (@Ob.rec (fun _ => R) (fun cs' sup' prev' => br sup' (.fail "") (Lc prev' (QZ n cs cs' κ))) (C4 "") (Fh "") (.fail "") (Ax "") b))) := h
    obtain ⟨h1, e1⟩ := Gj h0
    rw [e1] at h0
    obtain ⟨h2, e2⟩ := LF h0
    rw [e2] at h0
    cases b with
    | c cs' sup' prev' =>
      have h0:R.good (br sup' (.fail "") (Lc prev' (QZ n cs cs' κ))) := h0
      obtain ⟨h3, e3⟩ := Gj h0
      rw [e3] at h0
      obtain ⟨h4, e4⟩ := LF h0
      rw [e4] at h0
      subst h1 h2 h3 h4
      cases cs with
      | l xs => cases cs' with
        | l ys =>
          have h0:R.good (br (Le n xs) (Bl (.tup xs) (.tup ys) κ) (.fail "")) := h0
          obtain ⟨h5, e5⟩ := Af h0
          rw [e5] at h0
          obtain ⟨h6, e6⟩ := El h0
          cases h6
          exact ⟨rfl, ⟨h5, rfl, rfl⟩, Eq.trans e5 e6⟩
        | b m c => exact h0.elim
      | b m c => cases cs' with
        | l ys => exact h0.elim
        | b m' c' =>
          have h0:R.good (br (Nat.beq m m') (br (Nat.beq c c') κ (.fail "")) (.fail "")) := h0
          obtain ⟨h5, e5⟩ := Af h0
          rw [e5] at h0
          obtain ⟨h6, e6⟩ := Af h0
          exact ⟨by rw [Nat.eq_of_beq_eq_true h5, Nat.eq_of_beq_eq_true h6], ⟨rfl, rfl⟩, Eq.trans e5 e6⟩
    | m _ _ _ => exact h0.elim
    | it _ _ _ _ => exact h0.elim
    | it0 => exact h0.elim
    | lp _ _ => exact h0.elim
  | m es bs c => cases b with
    | m es' bs' c' =>
      have h0:R.good (br (Nat.beq c c') (Lz bs bs' (KP n es es' κ)) (.fail "")) := h
      obtain ⟨h1, e1⟩ := Af h0
      rw [e1] at h0
      obtain ⟨h2, e2⟩ := JY h0
      rw [e2] at h0
      obtain ⟨h3, h4, e3⟩ := JS h0
      refine ⟨by rw [Nat.eq_of_beq_eq_true h1, h2, h3], h4, Eq.trans e1 (e2.trans e3)⟩
    | c _ _ _ => exact h.elim
    | it _ _ _ _ => exact h.elim
    | it0 => exact h.elim
    | lp _ _ => exact h.elim
  | it _ _ _ _ => exact h.elim
  | it0 => exact h.elim
  | lp _ _ => exact h.elim
theorem JN {n:K4} {a b:Ch} {κ:R} (h:(Hb n a b κ).good):a=b∧(∀ o, a=some o->Kh n o)∧Hb n a b κ=κ := by
  cases a with
  | none => cases b with
    | none => exact ⟨rfl, fun o h => (by cases h), rfl⟩
    | some y => exact h.elim
  | some x => cases b with
    | none => exact h.elim
    | some y =>
      obtain ⟨h1, h2, e⟩ := Qo (show R.good (RR n x y κ) from h)
      subst h1
      exact ⟨rfl, fun o h => (by cases h; exact h2), e⟩
theorem IY {n:K4} {h1 h':Heap}:∀ {acc:List K4} {κ:R}, (GJ n h1 h' acc κ).good->(∀ p∈acc, A9 p h1=A9 p h' ∧ ∀ o, A9 p h1=some o->Kh n o)∧GJ n h1 h' acc κ=κ
  | [], κ, _ => ⟨fun p hp => by simp at hp, rfl⟩
  | q::acc, κ, h => by
    have e0:GJ n h1 h' (q::acc) κ=Hb n (A9 q h1) (A9 q h') (GJ n h1 h' acc κ) := by
      show (Be q h1 fun a => Be q h' fun b => Hb n a b (GJ n h1 h' acc κ))=_
      rw [Bi, Bi]
    rw [e0] at h
    obtain ⟨a1, a2, e1⟩ := JN h
    rw [e1] at h
    obtain ⟨a3, e2⟩ := IY h
    refine ⟨fun p hp => ?_, e0.trans (e1.trans e2)⟩
    rcases List.mem_cons.1 hp with e | hp
    · subst e; exact ⟨a1, a2⟩
    · exact a3 p hp
/-- Two results. -/
def UL (n:K4) (v1:V) (h1:Heap) (v':V) (h':Heap):Prop :=
  (FF n v1=true∧v1=v')∨(FF n v1=false ∧ ∃ p p' off len cap ex esz, v1 = .sl p off len cap ex esz∧v' = .sl p' off len cap ex esz∧n.toN≤p.toN∧n.toN≤p'.toN∧Jv n (A9 p h1)=Jv n (A9 p' h') ∧ ∀ o, Jv n (A9 p h1)=some o->Kh n o)
theorem NQ {n:K4} {v1 v':V} {h1 h':Heap} {κ:R} (h:(IC n v1 h1 v' h' κ).good):UL n v1 h1 v' h'∧IC n v1 h1 v' h' κ=κ := by
  unfold IC at h ⊢
  cases ho:FF n v1 with
  | true =>
    rw [ho] at h
    obtain ⟨a, e⟩ := El (show R.good (Bl v1 v' κ) from h)
    exact ⟨.inl ⟨ho, a⟩, e⟩
  | false =>
    rw [ho] at h
    have h:R.good (Ei v1 (.fail "") fun p off len cap ex esz => Ei v' (.fail "") fun p' off' len' cap' ex' esz' => br (Oj p n) (.fail "") (br (Oj p' n) (.fail "") (Bl (.sl p off len cap ex esz) (.sl p off' len' cap' ex' esz') (Be p h1 fun a => Be p' h' fun b => Hb n (Jv n a) (Jv n b) κ)))) := h
    show UL n v1 h1 v' h'∧(Ei v1 (.fail "") fun p off len cap ex esz => Ei v' (.fail "") fun p' off' len' cap' ex' esz' => br (Oj p n) (.fail "") (br (Oj p' n) (.fail "") (Bl (.sl p off len cap ex esz) (.sl p off' len' cap' ex' esz') (Be p h1 fun a => Be p' h' fun b => Hb n (Jv n a) (Jv n b) κ))))=κ
    rcases DS h with ⟨_, e1⟩ | ⟨p, off, len, cap, ex, esz, hv, e1⟩
    · rw [e1] at h; exact h.elim
    rw [e1] at h ⊢
    rcases DS h with ⟨_, e2⟩ | ⟨p', off', len', cap', ex', esz', hv', e2⟩
    · rw [e2] at h; exact h.elim
    rw [e2] at h ⊢
    obtain ⟨a1, e3⟩ := Gj h
    rw [e3] at h ⊢
    obtain ⟨a2, e4⟩ := Gj h
    rw [e4] at h ⊢
    obtain ⟨a3, e5⟩ := El h
    rw [e5] at h ⊢
    rw [Bi, Bi] at h ⊢
    obtain ⟨a4, a5, e6⟩ := JN h
    rw [e6]
    cases a3
    have n1:n.toN≤p.toN := by
      rcases Nat.lt_or_ge p.toN n.toN with h | h
      · rw [GN.2 h] at a1; cases a1
      · exact h
    have n2:n.toN≤p'.toN := by
      rcases Nat.lt_or_ge p'.toN n.toN with h | h
      · rw [GN.2 h] at a2; cases a2
      · exact h
    exact ⟨.inr ⟨ho, p, p', off, len, cap, ex, esz, hv, hv', n1, n2, a4, a5⟩, rfl⟩
theorem WW (a b:K4) (κ:K4->R):∃ m:K4, We a b κ=κ m∧a.toN≤m.toN∧b.toN≤m.toN := by
  unfold We
  cases h:Nat.ble a.toN b.toN with
  | true => exact ⟨b, rfl, Ab.1 h, Nat.le_refl _⟩
  | false =>
    have:¬ a.toN≤b.toN := fun h' => by rw [Ab.2 h'] at h; cases h
    exact ⟨a, rfl, Nat.le_refl _, by omega⟩
/-- All ways are like the first one. -/
def Y8 (n:K4) (v1:V) (h1:Heap) (acc:List K4) (m:K4):R->Prop
  | .rv v h n' => UL n v1 h1 v h∧(∀ p∈acc, A9 p h1=A9 p h ∧ ∀ o, A9 p h1=some o->Kh n o)∧n'.toN≤m.toN
  | _ => False
theorem JA {n:K4} {v1:V} {h1:Heap} {acc:List K4}:∀ {r:R} {mx:K4} {κ:K4->R}, (TZ n v1 h1 acc r mx κ).good->∃ m:K4, mx.toN≤m.toN∧r.sat (Y8 n v1 h1 acc m)∧TZ n v1 h1 acc r mx κ=κ m
  | .ok _ _ _ _, mx, κ, h => h.elim
  | .fail _, mx, κ, h => h.elim
  | .rv v h0 n', mx, κ, h => by
    have h:R.good (IC n v1 h1 v h0 (GJ n h1 h0 acc (We n' mx κ))) := h
    obtain ⟨a1, e1⟩ := NQ h
    rw [e1] at h
    obtain ⟨a2, e2⟩ := IY h
    rw [e2] at h
    obtain ⟨m, e3, l1, l2⟩ := WW n' mx κ
    exact ⟨m, l2, ⟨a1, a2, l1⟩, Eq.trans e1 (e2.trans e3)⟩
  | .both a b, mx, κ, h => by
    have h:R.good (TZ n v1 h1 acc a mx fun mx => TZ n v1 h1 acc b mx κ) := h
    obtain ⟨m1, l1, s1, e1⟩ := JA h
    rw [e1] at h
    obtain ⟨m2, l2, s2, e2⟩ := JA h
    refine ⟨m2, Nat.le_trans l1 l2, ⟨R.sat_mono (fun r hr => ?_) s1, s2⟩, Eq.trans e1 e2⟩
    cases r with
    | rv v h0 n' => exact ⟨hr.1, hr.2.1, Nat.le_trans hr.2.2 l2⟩
    | ok _ _ _ _ => exact hr
    | fail _ => exact hr
    | both _ _ => exact hr
theorem JO:∀ {r:R} {κ:V->Heap->R}, (QY r κ).good->∃ v h, QY r κ=κ v h
  | .ok _ _ _ _, κ, h => h.elim
  | .fail _, κ, h => h.elim
  | .rv v h0 n', κ, h => ⟨v, h0, rfl⟩
  | .both a b, κ, h => JO (r := a) h
theorem W2 (o:Ob) (h:Heap) (κ:Heap->R):RX o h κ=κ (Ee (C7 o) h) := by
  cases o with
  | c cs sup prev =>
    cases prev with
    | none => rfl
    | some q => show BN q h none κ=_; rw [BP, AT]; rfl
  | m _ _ _ => rfl
  | it _ _ _ _ => rfl
  | it0 => rfl
  | lp _ _ => rfl
/-- What is left when the ways are laid together. -/
structure PutOK (h h1:Heap) (acc:List K4) (hf:Heap):Prop where
  put:∀ q o, A9 q hf=some o->(q∈acc∧A9 q h1=some o)∨(q ∉ acc∧A9 q h=some o ∧ ∀ p∈acc, ∀ op, A9 p h=some op->C7 op≠some q)
theorem Lg {h h1:Heap}:∀ {acc:List K4} {κ:Heap->R}, (OX h h1 acc κ).good->∃ hf, PutOK h h1 acc hf∧OX h h1 acc κ=κ hf
  | [], κ, _ => ⟨h, ⟨fun q o hq => .inr ⟨by simp, hq, fun p hp => by simp at hp⟩⟩, rfl⟩
  | p::acc, κ, hg => by
    have hg:R.good (OX h h1 acc fun hf => Be p h fun o => @Option.rec Ob (fun _ => R) (.fail "") (fun o => RX o hf fun hf => Be p h1 fun o1 => BN p hf o1 κ) o) := hg
    obtain ⟨hf, ok, e1⟩ := Lg hg
    rw [e1] at hg
    have e0:OX h h1 (p::acc) κ=_ := e1
    rw [e0]
    rw [Bi] at hg ⊢
    cases hp:A9 p h with
    | none => rw [hp] at hg; exact hg.elim
    | some op =>
      show ∃ hf', PutOK h h1 (p::acc) hf'∧(RX op hf fun hf => Be p h1 fun o1 => BN p hf o1 κ)=κ hf'
      rw [W2, Bi, BP, AT]
      refine ⟨_, ⟨fun q o hq => ?_⟩, rfl⟩
      rcases BQ hq with ⟨rfl, e⟩ | ⟨hne, hq⟩
      · exact .inl ⟨List.mem_cons_self .., e⟩
      · obtain ⟨k1, hq⟩ := Dm hq
        rcases ok.put q o hq with ⟨a, b⟩ | ⟨a, b, c⟩
        · exact .inl ⟨List.mem_cons_of_mem _ a, b⟩
        · refine .inr ⟨fun hm => ?_, b, fun p' hp' op' hop' => ?_⟩
          · rcases List.mem_cons.1 hm with e | hm
            · exact hne e.symm
            · exact a hm
          · rcases List.mem_cons.1 hp' with e | hp'
            · subst e; rw [hp] at hop'; cases hop'; exact k1
            · exact c p' hp' op' hop'
section
variable {h hs h1 h' hf:Heap} {acc:List K4} {n n' m:K4} {v1 v:V} {φ φ':AO} {w w':World}
theorem GD (sub:Sub h hs acc) (put:PutOK h h1 acc hf) (g:Gam ρ B h n φ w) {q:K4} {o:Ob} (hq:q ∉ acc) (ho:A9 q hf=some o) {b s tot:Nat} (hφ:φ q=some (b, s, tot)) {p:K4} (hp:p∈acc) {s' tot':Nat} (hφp:φ p=some (b, s', tot')):False := by
  obtain ⟨op', hop⟩ := sub.has p hp
  obtain ⟨op, k1, _, k2, _⟩ := sub.sub p op' hop
  rcases put.put q o ho with ⟨a, _⟩ | ⟨_, a, c⟩
  · exact hq a
  · have hne:p≠q := fun e => hq (e ▸ hp)
    rcases g.sep p q op o b s' tot' s tot hne k1 a hφp hφ with e | e
    · exact c p hp op k1 e
    · have := g.sup q p o op b s tot s' tot' a e k1 hφ hφp
      cases op with
      | c cs sup prev =>
        have this:sup=true := this
        subst this
        cases k2
      | m _ _ _ => cases this
      | it _ _ _ _ => cases this
      | it0 => cases this
      | lp _ _ => cases this
theorem VV (sub:Sub h hs acc) (put:PutOK h h1 acc hf) (g:Gam ρ B h n φ w) (f1:Fr hs h' φ φ' n n' w w') {q:K4} {o:Ob} (hq:q ∉ acc) (ho:A9 q hf=some o) {b s tot:Nat} (hφ:φ q=some (b, s, tot)):w'.heap[b]? = w.heap[b]? := by
  refine f1.old b (g.blk q b s tot hφ).2 fun p s' tot' hp => ?_
  cases hx:A9 p hs with
  | none => rfl
  | some o' => exact (GD sub put g hq ho hφ (sub.mem hx) hp).elim
theorem VM (sub:Sub h hs acc) (put:PutOK h h1 acc hf) (g:Gam ρ B h n φ w) (f1:Fr hs h' φ φ' n n' w w') (g1:Gam ρ B h' n' φ' w')
    (hacc:∀ p∈acc, A9 p h1=A9 p h' ∧ ∀ o, A9 p h1=some o->Kh n o) (hm:n.toN≤m.toN):Gam ρ B hf m φ w'∧Fr h hf φ φ n m w w' := by
  have back:∀ p x, p.toN<n.toN->φ' p=some x->φ p=some x := fun p x hp hx => by
    rcases f1.new p x hx with h | ⟨h, _⟩
    · exact h
    · omega
  have inacc:∀ q o, q∈acc->A9 q hf=some o->A9 q h'=some o∧Kh n o := fun q o hq ho => by
    rcases put.put q o ho with ⟨_, a⟩ | ⟨a, _⟩
    · exact ⟨(hacc q hq).1 ▸ a, (hacc q hq).2 o a⟩
    · exact absurd hq a
  have outacc:∀ q o, q ∉ acc->A9 q hf=some o->A9 q h=some o := fun q o hq ho => by
    rcases put.put q o ho with ⟨a, _⟩ | ⟨_, a, _⟩
    · exact absurd a hq
    · exact a
  refine ⟨⟨Nat.le_trans g.base f1.size, fun p x hx => Nat.lt_of_lt_of_le (g.dom p x hx) hm, fun p b s tot hx => ⟨(g.blk p b s tot hx).1, Nat.lt_of_lt_of_le (g.blk p b s tot hx).2 f1.size⟩, fun q o b s tot ho hx => ?_, fun p q o o' b s tot s' tot' hne ho ho' hx hy => ?_, fun p q o o' b s tot s' tot' ho hpr ho' hx hy => ?_, g1.glob⟩,
    ⟨AO.le_refl φ, fun _ _ h => .inl h, hm, f1.os, f1.tape, f1.out, f1.size, fun b hb hn => f1.old b hb fun p s tot hp => ?_, fun _ _ _ _ h => .inl h, fun p hp hn => ?_⟩⟩
  · by_cases hq:q∈acc
    · obtain ⟨a, c⟩ := inacc q o hq ho
      exact KI back c (g1.obj q o b s tot a (f1.ext _ _ hx))
    · exact Ck (VV sub put g f1 hq ho hx) (g.obj q o b s tot (outacc q o hq ho) hx)
  · by_cases hp:p∈acc
    · by_cases hq:q∈acc
      · exact g1.sep p q o o' b s tot s' tot' hne (inacc p o hp ho).1 (inacc q o' hq ho').1 (f1.ext _ _ hx) (f1.ext _ _ hy)
      · exact (GD sub put g hq ho' hy hp hx).elim
    · by_cases hq:q∈acc
      · exact (GD sub put g hp ho hx hq hy).elim
      · exact g.sep p q o o' b s tot s' tot' hne (outacc p o hp ho) (outacc q o' hq ho') hx hy
  · by_cases hp:p∈acc
    · rw [(inacc p o hp ho).2.prev] at hpr; cases hpr
    · by_cases hq:q∈acc
      · exact (GD sub put g hp ho hx hq hy).elim
      · exact g.sup p q o o' b s tot s' tot' (outacc p o hp ho) hpr (outacc q o' hq ho') hx hy
  · cases hx:A9 p hs with
    | none => rfl
    | some o' => have := hn p s tot hp; obtain ⟨o0, e0⟩ := sub.in_h hx; rw [e0] at this; cases this
  · cases hx:A9 p hf with
    | none => rfl
    | some o =>
      exfalso
      by_cases hq:p∈acc
      · obtain ⟨o', ho'⟩ := sub.has p hq
        obtain ⟨o0, e0⟩ := sub.in_h ho'
        rw [e0] at hn; cases hn
      · rw [outacc p o hq hx] at hn; cases hn
theorem Yq (sub:Sub h hs acc) (put:PutOK h h1 acc hf) (g:Gam ρ B h n φ w) (f1:Fr hs h' φ φ' n n' w w') (g1:Gam ρ B h' n' φ' w') {x:Value} (r1:Ap ρ φ' v x)
    (way:Y8 n v1 h1 acc m (.rv v h' n')) (hm:n.toN≤m.toN) {vf:V} {hff:Heap} {nf:K4} (hres:YL n v1 h1 hf m = .rv vf hff nf) :
    ∃ φ'', Fr h hff φ φ'' n nf w w'∧Gam ρ B hff nf φ'' w'∧Ap ρ φ'' vf x := by
  obtain ⟨res, hacc, hn'⟩ := way
  obtain ⟨gb, fb⟩ := VM sub put g f1 g1 hacc hm
  have back:∀ p x, p.toN<n.toN->φ' p=some x->φ p=some x := fun p x hp hx => by
    rcases f1.new p x hx with h | ⟨h, _⟩
    · exact h
    · omega
  unfold YL at hres
  rcases res with ⟨ho, e⟩ | ⟨ho, p, p', off, len, cap, ex, esz, e1, e2, hp, hp', heq, hold⟩
  · subst e
    rw [ho] at hres
    have hres:R.rv v1 hf m=R.rv vf hff nf := hres
    cases hres
    exact ⟨φ, fb, gb, Fb back ho r1⟩
  · rw [ho] at hres
    subst e1 e2
    have hres:(Be p h1 fun o => @Option.rec Ob (fun _ => R) (.fail "") (fun ob => BN m hf (some ob) fun hf => m.nx fun m' => .rv (.sl m off len cap ex esz) hf m') (Jv n o)) = .rv vf hff nf := hres
    rw [Bi] at hres
    cases hob:Jv n (A9 p h1) with
    | none => rw [hob] at hres; cases hres
    | some ob =>
      rw [hob] at hres
      have hres:(BN m hf (some ob) fun hf => m.nx fun m' => .rv (.sl m off len cap ex esz) hf m') = .rv vf hff nf := hres
      rw [BP, AT] at hres
      rcases K4.nx_eq m (fun m' => .rv (.sl m off len cap ex esz) (Ae m hf (some ob)) m') with ⟨why, e⟩ | ⟨m', hm', e⟩
      · rw [e] at hres; cases hres
      rw [e] at hres
      cases hres
      have hOld := hold ob hob
      obtain ⟨obr, hob', hpv, hcl⟩ := T5 (heq ▸ hob)
      obtain ⟨b', s', tot', o, cap', hφ', gx, c1, c2, c3, c4⟩ := D0 r1
      have hmn:φ m=none := by
        cases hx:φ m with
        | none => rfl
        | some x => have := g.dom m x hx; omega
      have hoblk := g1.blk p' b' s' tot' hφ'
      -- no object that was there lies in that block
      have apart:∀ q oq, A9 q hf=some oq->∀ s tot, φ q=some (b', s, tot)->False := fun q oq hq s tot hx => by
        have hqn := g.dom q _ hx
        have hne:p'≠q := fun e => by rw [e] at hp'; omega
        by_cases hqa:q∈acc
        · rcases put.put q oq hq with ⟨_, a⟩ | ⟨a, _⟩
          · have a':A9 q h'=some oq := (hacc q hqa).1 ▸ a
            rcases g1.sep p' q obr oq b' s' tot' s tot hne hob' a' hφ' (f1.ext _ _ hx) with e | e
            · have := hpv hOld.prev q e; omega
            · rw [((hacc q hqa).2 oq a).prev] at e; cases e
          · exact a hqa
        · rcases f1.fresh p' b' s' tot' hφ' with h | h | ⟨r, sr, tr, hr, hne'⟩
          · have := g.dom p' _ h; omega
          · have := (g.blk q b' s tot hx).2; omega
          · cases hx':A9 r hs with
            | none => exact hne' hx'
            | some o' => exact GD sub put g hqa hq hx (sub.mem hx') hr
      refine ⟨EK φ m (b', s', tot'), ⟨AO.le_trans fb.ext (D6 hmn), fun q y hy => ?_, by omega, fb.os, fb.tape, fb.out, fb.size, fb.old, fun q b s t hx => ?_, fun q hq hn => ?_⟩, ⟨gb.base, fun q y hy => ?_, fun q b s t hy => ?_, fun q oq b s t hq hy => ?_, fun q r oq or b s t s2 t2 hne hq hr hx hy => ?_, fun q r oq or b s t s2 t2 hq hpr hr hx hy => ?_, gb.glob⟩, ?_⟩
      · rcases Az hy with ⟨rfl, _⟩ | ⟨_, hy⟩
        · exact .inr ⟨hm, by omega⟩
        · exact .inl hy
      · rcases Az hx with ⟨rfl, e⟩ | ⟨_, hx⟩
        · cases e
          rcases f1.fresh p' b' s' tot' hφ' with h | h | ⟨r, sr, tr, hr, hne'⟩
          · have := g.dom p' _ h; omega
          · exact .inr (.inl h)
          · refine .inr (.inr ⟨r, sr, tr, hr, ?_⟩)
            cases hx':A9 r hs with
            | none => exact absurd hx' hne'
            | some o' => obtain ⟨o0, e0⟩ := sub.in_h hx'; rw [e0]; simp
        · exact .inl hx
      · have hne:m≠q := fun e => hq (e ▸ hmn)
        rw [A8 _ _ hne]
        exact fb.dm q hq hn
      · rcases Az hy with ⟨rfl, _⟩ | ⟨_, hy⟩
        · omega
        · have := gb.dom q y hy; omega
      · rcases Az hy with ⟨rfl, e⟩ | ⟨_, hy⟩
        · cases e; exact hoblk
        · exact gb.blk q b s t hy
      · rcases Az hy with ⟨rfl, e⟩ | ⟨hne, hy⟩
        · cases e
          rw [A6] at hq; cases hq
          refine KI (φ1 := φ') (fun q y hq hy => ?_) hOld (hcl (g1.obj p' obr _ _ _ hob' hφ'))
          rw [HJ fun e => by subst e; omega]
          exact back q y hq hy
        · rw [A8 _ _ hne] at hq
          exact Et (D6 hmn) (gb.obj q oq b s t hq hy)
      · rcases Az hx with ⟨rfl, e⟩ | ⟨hq', hx⟩
        · cases e
          rcases Az hy with ⟨e, _⟩ | ⟨hr', hy⟩
          · exact absurd e hne
          · rw [A8 _ _ hr'] at hr
            exact (apart r or hr s2 t2 hy).elim
        · rw [A8 _ _ hq'] at hq
          rcases Az hy with ⟨rfl, e⟩ | ⟨hr', hy⟩
          · cases e
            exact (apart q oq hq s t hx).elim
          · rw [A8 _ _ hr'] at hr
            exact gb.sep q r oq or b s t s2 t2 hne hq hr hx hy
      · rcases Az hx with ⟨rfl, e⟩ | ⟨hq', hx⟩
        · rw [A6] at hq; cases hq
          rw [hOld.prev] at hpr; cases hpr
        · rw [A8 _ _ hq'] at hq
          rcases Az hy with ⟨rfl, e⟩ | ⟨hr', hy⟩
          · cases e
            exact (apart q oq hq s t hx).elim
          · rw [A8 _ _ hr'] at hr
            exact gb.sup q r oq or b s t s2 t2 hq hpr hr hx hy
      · rw [gx]
        simp only [Ap]
        exact ⟨b', s', tot', o, cap', C6 _ _ _, rfl, c1, c2, c3, c4⟩
end
/-- A CALL WHOSE WAYS ARE LAID TOGETHER IS SOUND. -/
theorem YT {f:FuncId} {run:Heap->R} {k:Nat} {args:List V} {h:Heap} {n:K4} {v:V} {h1:Heap} {n1:K4} (hr:brK k run args h n = .rv v h1 n1) {φ:AO} {w:World} {xs:Array Value} (g:Gam ρ B h n φ w) (hxs:BL ρ φ args xs.toList)
    (H:∀ (hs:Heap) (Φ:R->Prop), (run hs).sat Φ->Gam ρ B hs n φ w->M1 P f xs w fun x w' => ∃ v h1 n1 φ', Φ (.rv v h1 n1)∧Fr hs h1 φ φ' n n1 w w'∧Gam ρ B h1 n1 φ' w'∧Ap ρ φ' v x) :
    M1 P f xs w fun x w' => ∃ φ', Fr h h1 φ φ' n n1 w w'∧Gam ρ B h1 n1 φ' w'∧Ap ρ φ' v x := by
  unfold brK at hr
  obtain ⟨hs, acc, sub, e1⟩ := Gi k (todo := Yj args []) (κ := fun hs acc => YQ n h acc (run hs)) (Sub.nil (h := h))
  rw [e1] at hr
  unfold YQ at hr
  obtain ⟨v1, hh1, e2⟩ := JO (by rw [hr]; trivial)
  rw [e2] at hr
  obtain ⟨m, hm, sat, e3⟩ := JA (by rw [hr]; trivial)
  rw [e3] at hr
  obtain ⟨hf, put, e4⟩ := Lg (by rw [hr]; trivial)
  rw [e4] at hr
  have gs:Gam ρ B hs n φ w := by
    refine ⟨g.base, g.dom, g.blk, fun p o b s tot hp hx => ?_, fun p q o o' b s tot s' tot' hne hp hq hx hy => ?_, fun p q o o' b s tot s' tot' hp hpr hq hx hy => ?_, g.glob⟩
    · obtain ⟨o0, e0, rfl, _⟩ := sub.sub p o hp
      exact Ww (g.obj p o0 b s tot e0 hx)
    · exfalso
      obtain ⟨o0, e0, _, g0, _⟩ := sub.sub p o hp
      obtain ⟨o1, e1, _, g1, _⟩ := sub.sub q o' hq
      have no:∀ (ob:Ob), Ir ob=true->K9 ob=true->False := fun ob h1 h2 => by
        cases ob with
        | c cs sup prev =>
          cases sup with
          | true => cases h1
          | false => cases h2
        | _ => cases h2
      rcases g.sep p q o0 o1 b s tot s' tot' hne e0 e1 hx hy with h | h
      · exact no o1 g1 (g.sup p q o0 o1 b s tot s' tot' e0 h e1 hx hy)
      · exact no o0 g0 (g.sup q p o1 o0 b s' tot' s tot e1 h e0 hy hx)
    · obtain ⟨o0, e0, rfl, _⟩ := sub.sub p o hp
      rw [Tr] at hpr; cases hpr
  intro o a K Q hK
  refine H hs _ sat gs o a K Q fun x w' ⟨v', h', n', φ', way, f1, g1, r1⟩ => hK x w' ?_
  exact Yq sub put g f1 g1 r1 way hm hr
end
end Go.Ev

namespace Go.Ev
set_option linter.unusedVariables false
open Go.RowKit
/-- One round: the parameter, then the body. -/
abbrev rdK (pb px:K2) (al bl:List AOp) (cf:Fz) (b x:V) (h:Heap) (n:K4):R :=
  DE [] cf al [(px, x), (pb, b)] Fj h n fun env t h n => DE [] cf bl env t h n fun _ _ h n => .rv (.bool true) h n
abbrev Rd := Fz->V->V->Heap->K4->R
def Oq (l:List Oper):Bool := l.all fun o => match o.op with | .defer _ => false | _ => true
theorem JI {l:List Oper} (h:Oq l=true):∀ o∈l, ∀ c, o.op ≠ .defer c := fun o ho c e => by
  have := List.all_eq_true.1 h o ho
  rw [e] at this; cases this
def Rt:Code->Option (Array Oper)
  | .region _ ops false => some ops
  | _ => none
def Vt:Code->Option (Array Oper)
  | .block _ c => Rt c
  | _ => none
/-- The round's text, and whether it is one. -/
def TW (P:Program) (A:ApC):Option Rd :=
  match Rt A.asg, Vt A.bod, K2.ofN A.par, K2.ofN A.box with
  | some oa, some ob, some px, some pb => match HX P A.ntm oa oa.toList, HX P A.ntm ob ob.toList with
    | some al, some bl => if GX [] al [px, pb]&&(GX [] bl (CZ al [px, pb])&&(Oq oa.toList&&(Oq ob.toList&&(Nat.blt A.par A.ntm&&(Nat.blt A.box A.ntm && !(A.par == A.box)))))) then some (rdK pb px al bl) else none
    | _, _ => none
  | _, _, _, _ => none
theorem KU {c:Code} {ops:Array Oper} (h:Rt c=some ops):∃ i, c = .region i ops false := by
  unfold Rt at h
  split at h
  · cases h; exact ⟨_, rfl⟩
  · cases h
theorem Rf {c:Code} {ops:Array Oper} (h:Vt c=some ops):∃ i j, c = .block i (.region j ops false) := by
  unfold Vt at h
  split at h
  · obtain ⟨j, rfl⟩ := KU h; exact ⟨_, j, rfl⟩
  · cases h
/-- The function. -/
def M2 (P:Program) (f:FuncId):Option ApC :=
  match P.funcs[f]? with
  | some fn => match fn.body with
    | some (.seq (.region _ r0 false) (.seq (.seq (.region _ r1 false) (.block _ (.rangeFunc (.tmp s6) ps asg bod))) (.seq (.region _ r4 false) .ret))) =>
      match r0.toList, r1.toList, r4.toList, ps.toList, fn.results.toList with
      | [o1, o2], [o3], [o4, o5], [par], [.tmp s4] => match o1.op, o2.op, o3.op, o4.op, o5.op with
        | .box _ (.tmp s0), .assign (.const c2), .move (.tmp s1), .load tL (.tmp s2), .assign (.tmp s12) =>
          if (fn.name == "runtime.NumGoroutine")=false∧fn.ntmps=13∧s6=6∧s4=4∧s0=0∧s1=1∧s2=2∧s12=12∧o1.dst=some 2∧o2.dst=some 4∧o3.dst=some 6∧o4.dst=some 12∧o5.dst=some 4 ∧
            o1.guard=none∧o2.guard=none∧o3.guard=none∧o4.guard=none∧o5.guard=none∧Ln P tL=some false then some ⟨asg, bod, par, 2, 13⟩ else none
        | _, _, _, _, _ => none
      | _, _, _, _, _ => none
    | _ => none
  | none => none
def K0 (l:List V) (κ:V->List V->R):R := @List.rec V (fun _ => R) (.fail "") (fun x xs _ => κ x xs) l
def RP (l:List V) (κ:R):R := @List.rec V (fun _ => R) κ (C4 "") l
def Qs (v:V) (κ:R):R :=
  @V.rec (fun _ => R) (fun _ => Unit) (Ax "") (AQ "") (Ax "") (DX "") (Ax "") (Ax "")
    (fun u => @Nl.rec (fun _ => R) (.fail "") κ (.fail "") (.fail "") (.fail "") u) (AQ "") (C4 "") (Ax "") (AQ "") () (fun _ _ _ _ => ()) v
def U7 (v:V) (κ:Nat->List V->R):R :=
  @V.rec (fun _ => R) (fun _ => Unit) (Ax "") (AQ "") (Ax "") (DX "") (Ax "") (Ax "") (AQ "") (AQ "")
    (fun f caps _ => κ f caps) (Ax "") (AQ "") () (fun _ _ _ _ => ()) v
def WY (o:Ch) (κ:R):R := @Option.rec Ob (fun _ => R) (.fail "") (fun o => @Ob.rec (fun _ => R) (C4 "") (C4 "") (Fh "") (.fail "") (fun _ _ => κ) o) o
def Ib (g:Nat) (l:List Nat) (κ:R):R := @List.rec Nat (fun _ => R) (.fail "") (fun x _ ih => br (Nat.beq x g) κ ih) l
def Yn (f:Nat) (its:List Nat) (cf:Fz) (args:List V) (h:Heap) (n:K4):R :=
  K0 args fun v l => K0 l fun s l => RP l (Qs v (U7 s fun g caps => Ib g its
    (BN n h (some (.c (.l [.nil .sl]) false none)) fun h => n.nx fun n1 => BN n1 h (some (.lp f n)) fun h => n1.nx fun n2 =>
      Dr (cf (Bk g) (.oth (.yl n1)::caps) h n2) fun _ h m =>
        Be n1 h fun o => WY o (JV n h fun cs _ _ => F8 cs 0 fun sv => BN n h none fun h => BN n1 h none fun h => .rv sv h m))))
section
variable {P:Program} {ρ:Env} {B:Nat} {h:Heap} {n:K4}
/-- No object tells of a block. -/
def XT (φ:AO) (h:Heap) (l:Nat):Prop := ∀ q s tot, φ q=some (l, s, tot)->A9 q h=none
theorem XT.step {φ φ1:AO} {h1:Heap} {n1:K4} {w w1:World} {l:Nat} (u:XT φ h l) (hl:l<w.heap.size) (f:Fr h h1 φ φ1 n n1 w w1):XT φ1 h1 l := fun q s tot hq => by
  rcases f.fresh q l s tot hq with e | e | ⟨r, s', tot', hr, hne⟩
  · exact f.dm q (by rw [e]; simp) (u q s tot e)
  · omega
  · exact absurd (u r s' tot' hr) hne
theorem Gam.poke {φ:AO} {w:World} (g:Gam ρ B h n φ w) {l:Nat} (u:XT φ h l) (O:Obj) (hno:∀ c e fr, w.heap[l]? ≠ some (.cells c e fr)):Gam ρ B h n φ (w.putObj l O) where
  glob := fun k c e fr hk => ⟨(g.glob k c e fr hk).1, by rw [World.putObj_heap_other (fun e' => by subst e'; exact hno _ _ _ (g.glob _ c e fr hk).2)]; exact (g.glob k c e fr hk).2⟩
  base := by rw [World.putObj_size]; exact g.base
  dom := g.dom
  blk := fun p b s t hp => by rw [World.putObj_size]; exact g.blk p b s t hp
  obj := fun p o b s t hp hφ => by
    refine Ck (World.putObj_heap_other fun e => ?_) (g.obj p o b s t hp hφ)
    subst e
    rw [u p s t hφ] at hp; cases hp
  sep := g.sep
  sup := g.sup
/-- A block is other for a while. -/
theorem Fr.around {h1:Heap} {n1:K4} {φ φ1:AO} {w W:World} {l:Nat} {O O0:Obj} (hl:w.heap[l]? = some O0) (f:Fr h h1 φ φ1 n n1 (w.putObj l O) W):Fr h h1 φ φ1 n n1 w (W.putObj l O0) := by
  have hlt:l<w.heap.size := by
    rcases Nat.lt_or_ge l w.heap.size with e | e
    · exact e
    · rw [Array.getElem?_eq_none e] at hl; cases hl
  have hs := f.size
  rw [World.putObj_size] at hs
  refine ⟨f.ext, f.new, f.nn, f.os, f.tape, f.out, by rw [World.putObj_size]; exact hs, fun b hb hn => ?_, fun q b s t hq => ?_, f.dm⟩
  · by_cases e:b=l
    · subst e; rw [World.putObj_heap_same (by omega), hl]
    · rw [World.putObj_heap_other e, f.old b (by rw [World.putObj_size]; exact hb) hn, World.putObj_heap_other e]
  · have := f.fresh q b s t hq
    rwa [World.putObj_size] at this
/-- A new block is other behind. -/
theorem Fr.poke {h1:Heap} {n1:K4} {φ φ1:AO} {w W:World} {l:Nat} (O:Obj) (hl:w.heap.size≤l) (f:Fr h h1 φ φ1 n n1 w W):Fr h h1 φ φ1 n n1 w (W.putObj l O) :=
  ⟨f.ext, f.new, f.nn, f.os, f.tape, f.out, by rw [World.putObj_size]; exact f.size, fun b hb hn => by rw [World.putObj_heap_other (by omega)]; exact f.old b hb hn, f.fresh, f.dm⟩
def Wv:Regs := Regs.all (VP.all (.oth .any))
theorem SB (p:K2):B8 p Wv = .oth .any := by simp only [B8, Wv, Regs.sel_all, VP.sel_all]
/-- The round is sound. -/
theorem Abs (hρ:Bq ρ) {cf:CF} {cf2:Fz} (hcf:Eu P ρ B cf) (h2:∀ f, cf2 (Bk f)=cf f) {A:ApC} {rd:Rd} (hrd:TW P A=some rd) {fn:FuncId} {box:K4} {x:V} {Φ:R->Prop}
    (hs:(rd cf2 (.ptr box 0) x h n).sat Φ) {φ:AO} {w:World} {tmps:Array Value} {X:Value} {l D:Nat} (g:Gam ρ B h n φ w) (hl:w.heap[l]? = some (.loop (G2 A fn tmps D))) (u:XT φ h l)
    (hsz:tmps.size=A.ntm) (hbox:Ap ρ φ (.ptr box 0) (tmps.getD A.box undef)) (hX:Ap ρ φ x X) :
    RoundIn Fence.wide 0 P l fn (tmps.setIfInBounds A.par X) A.asg A.bod w fun e w' => e = .returned (.bool true) ∧
      ∃ v h1 n1 φ', v = .bool true∧Φ (.rv v h1 n1)∧Fr h h1 φ φ' n n1 w w'∧Gam ρ B h1 n1 φ' w' := by
  unfold TW at hrd
  split at hrd
  · rename_i oa ob px pb ha hb hpx hpb
    split at hrd
    · rename_i al bl hal hbl
      split at hrd
      · rename_i hok
        cases hrd
        simp only [Bool.and_eq_true, Nat.blt_eq] at hok
        obtain ⟨ok1, ok2, nd1, nd2, lt1, lt2, hne⟩ := hok
        have hne:A.par≠A.box := by simpa using hne
        obtain ⟨i, hasg⟩ := KU ha
        obtain ⟨j, k, hbod⟩ := Rf hb
        have hlt:l<w.heap.size := by
          rcases Nat.lt_or_ge l w.heap.size with e | e
          · exact e
          · rw [Array.getElem?_eq_none e] at hl; cases hl
        have hpp:px≠pb := fun e => hne (K2.ofN_inj hpx (e ▸ hpb))
        have ri:RI [] [px, pb] [(px, x), (pb, .ptr box 0)] (EZ px (EZ pb Wv (.ptr box 0)) x) Fj := by
          refine ⟨fun h => (by cases h), fun p v hp => ?_, fun p hp => ?_, fun p s h => (by cases h)⟩
          · by_cases e:px=p
            · subst e; rw [DI] at hp; cases hp; exact B0 _ _ _
            · rw [Gg e] at hp
              rw [BK _ _ e]
              by_cases e':pb=p
              · subst e'; rw [DI] at hp; cases hp; exact B0 _ _ _
              · rw [Gg e'] at hp; simp [FX] at hp
          · by_cases e:px=p
            · subst e; exact ⟨x, DI⟩
            · rw [Gg e]
              by_cases e':pb=p
              · subst e'; exact ⟨_, DI⟩
              · simp at hp; rcases hp with hp | hp
                · exact absurd hp.symm e
                · exact absurd hp.symm e'
        have hT:TR ρ A.ntm φ (EZ px (EZ pb Wv (.ptr box 0)) x) { tmps := tmps.setIfInBounds A.par X, defers := [] } := {
          size := by simp [hsz]
          defers := rfl
          at_ := fun s p hs hp => by
            show Ap ρ φ _ ((tmps.setIfInBounds A.par X).getD s undef)
            by_cases e:A.par=s
            · subst e
              rw [hpx] at hp; cases hp
              rw [B0, Array.getD_eq_getD_getElem?, Array.getElem?_setIfInBounds_self_of_lt (by omega)]
              exact hX
            · rw [BK _ _ (fun e' => e (K2.ofN_inj hpx (by rw [e']; exact hp))), Array.getD_eq_getD_getElem?, Array.getElem?_setIfInBounds_ne e, ←Array.getD_eq_getD_getElem?]
              by_cases e2:A.box=s
              · subst e2
                rw [hpb] at hp; cases hp
                rw [B0]; exact hbox
              · rw [BK _ _ (fun e' => e2 (K2.ofN_inj hpb (by rw [e']; exact hp))), SB]
                simp only [Ap] }
        have hs:(DE [] cf2 al [(px, x), (pb, .ptr box 0)] Fj h n fun env t h n => DE [] cf2 bl env t h n fun _ _ h n => .rv (.bool true) h n).sat Φ := hs
        obtain ⟨env1, t1, t1', h1, n1, e1, ri1, H1⟩ := DP (B := B) (ops := oa) hρ hcf h2 hal ok1 ri (R.sat_good hs)
        rw [e1] at hs
        obtain ⟨env2, t2, t2', h2', n2, e2, ri2, H2⟩ := DP (B := B) (ops := ob) hρ hcf h2 hbl ok2 ri1 (R.sat_good hs)
        rw [e2] at hs
        have hs:Φ (.rv (.bool true) h2' n2) := hs
        refine roundIn_of_wpIn trivial ?_
        rw [hasg, hbod]
        have c1 := Em (l := some l) (n := 0) (r := []) (.inr (JI nd1)) (H1 φ _ w hT g (Exit.then (fun a₁ w₁ => ∃ w₂, (Instr.beginRound l).run P w₁ = .ok () w₂∧(Code.block j (.region k ob false)).wpIn (Fence.wide.inRound l) 0 P (roundPost P l (fun e w' => e = .returned (.bool true) ∧
            ∃ v h1 n1 φ', v = .bool true∧Φ (.rv v h1 n1)∧Fr h h1 φ φ' n n1 w w'∧Gam ρ B h1 n1 φ' w')) a₁ w₂) (fun _ _ _ => False)) (wpListIn (Nr (some l)) 0 P oa _ []) fun φ1 a1 w1 f1 g1 T1 => wpListIn_nil (F := Nr (some l)) ?_)
        · rw [List.append_nil] at c1
          exact wpIn_region_list c1
        · have u1 := u.step hlt f1
          have hl1:w1.heap[l]? = some (.loop (G2 A fn tmps D)) := (f1.old l hlt u).trans hl
          refine ⟨_, run_beginRound hl1 rfl, wpIn_block (wpIn_region_list ?_)⟩
          have g1' := g1.poke u1 (.loop { G2 A fn tmps D with state := .busy }) (fun c e fr h => by rw [hl1] at h; cases h)
          have c2 := Em (l := some l) (n := 0) (r := []) (.inr (JI nd2)) (H2 φ1 a1 _ T1 g1' (Exit.inBlock j (roundPost P l (fun e w' => e = .returned (.bool true) ∧
            ∃ v h1 n1 φ', v = .bool true∧Φ (.rv v h1 n1)∧Fr h h1 φ φ' n n1 w w'∧Gam ρ B h1 n1 φ' w'))) (wpListIn (Nr (some l)) 0 P ob _ []) fun φ2 a2 w2 f2 g2 T2 => wpListIn_nil (F := Nr (some l)) ?_)
          · rw [List.append_nil] at c2; exact c2
          · have hlt1:l<(w1.putObj l (.loop { G2 A fn tmps D with state := .busy })).heap.size := by rw [World.putObj_size]; have := f1.size; omega
            have u2 := u1.step hlt1 f2
            have hl2:w2.heap[l]? = some (.loop { G2 A fn tmps D with state := .busy }) := (f2.old l hlt1 u1).trans (World.putObj_heap_same (by rwa [World.putObj_size] at hlt1))
            exact ⟨_, _, run_endRound none hl2, rfl, _, h2', n2, φ2, rfl, hs, Fr.trans f1 (f2.around hl1), g2.poke u2 _ (fun c e fr h => by rw [hl2] at h; cases h)⟩
      · cases hrd
    · cases hrd
  · cases hrd
/-- It has a body. -/
def KC (P:Program) (g:FuncId):Prop := ∃ fn c, P.funcs[g]? = some fn∧fn.body=some c∧(fn.name == "runtime.NumGoroutine")=false
theorem Hf {l:List V} {κ:V->List V->R} (hg:(K0 l κ).good):∃ x xs, l=x::xs∧K0 l κ=κ x xs := by
  cases l with
  | nil => exact hg.elim
  | cons x xs => exact ⟨x, xs, rfl, rfl⟩
theorem LK {l:List V} {κ:R} (hg:(RP l κ).good):l=[]∧RP l κ=κ := by
  cases l with
  | nil => exact ⟨rfl, rfl⟩
  | cons x xs => exact hg.elim
theorem Py {v:V} {κ:R} (hg:(Qs v κ).good):v = .nil .sl∧Qs v κ=κ := by
  cases v with
  | nil u => cases u with
    | sl => exact ⟨rfl, rfl⟩
    | _ => exact hg.elim
  | _ => exact hg.elim
theorem R7 {v:V} {κ:Nat->List V->R} (hg:(U7 v κ).good):∃ f l, v = .fn f l∧U7 v κ=κ f l := by
  cases v with
  | fn f l => exact ⟨f, l, rfl, rfl⟩
  | _ => exact hg.elim
theorem TO {o:Ch} {κ:R} (hg:(WY o κ).good):(∃ f b, o=some (.lp f b))∧WY o κ=κ := by
  cases o with
  | none => exact hg.elim
  | some ob => cases ob with
    | lp f b => exact ⟨⟨f, b, rfl⟩, rfl⟩
    | _ => exact hg.elim
theorem KG {g:Nat}:∀ {l:List Nat} {κ:R}, (Ib g l κ).good->g∈l∧Ib g l κ=κ
  | [], κ, hg => hg.elim
  | x::l, κ, hg => by
    have hg:R.good (br (Nat.beq x g) κ (Ib g l κ)) := hg
    show _∧br (Nat.beq x g) κ (Ib g l κ)=κ
    cases hb:Nat.beq x g with
    | true => exact ⟨by rw [Nat.eq_of_beq_eq_true hb]; exact List.mem_cons_self .., rfl⟩
    | false =>
      rw [hb] at hg
      obtain ⟨h1, h2⟩ := KG (show R.good (Ib g l κ) from hg)
      exact ⟨List.mem_cons_of_mem _ h1, h2⟩
theorem BZ {o:Oper} {a:Act} {w w':World} {x:Value} {K:Act->World->Prop} {Q:Exit->Act->World->Prop} (hr:(execOp a.eval o).run P w = .ok (.value x) w') (hK:K (a.put o.dst x) w'):o.wpIn Fence.wide 0 P a w K Q :=
  Rq (l := none) (.inl rfl) (fun _ _ h => h) (show o.wp P a w K Q by unfold Oper.wp; rw [hr]; exact hK)
/-- The function is sound. -/
theorem Aap {f:FuncId} {its:List Nat} {A:ApC} (hA:ρ.ap f=some A) (hsh:M2 P f=some A) (hits:∀ g∈its, KC P g) {cf:CF} {cf2:Fz} (hcf:IH P ρ B cf) (h2:∀ f, cf2 (Bk f)=cf f) {args:List V} {Φ:R->Prop}
    (hr:(Yn f its cf2 args h n).sat Φ) {φ:AO} {w:World} {xs:Array Value} (g:Gam ρ B h n φ w) (hxs:BL ρ φ args xs.toList) :
    M1 P f xs w fun x w' => ∃ v h1 n1 φ', Φ (.rv v h1 n1)∧Fr h h1 φ φ' n n1 w w'∧Gam ρ B h1 n1 φ' w'∧Ap ρ φ' v x := by
  unfold M2 at hsh
  split at hsh
  next fn hfn =>
    split at hsh
    next i0 r0 i1 r1 b0 s6 ps asg bod i4 r4 hbody =>
      split at hsh
      next o1 o2 o3 o4 o5 par s4 e0 e1 e4 eps ers =>
        split at hsh
        next tS s0 c2 s1 tL s2 s12 p1 p2 p3 p4 p5 =>
          split at hsh
          next hc =>
            obtain ⟨hname, hnt, rfl, rfl, rfl, rfl, rfl, rfl, d1, d2, d3, d4, d5, g1, g2, g3, g4, g5, hagg⟩ := hc
            cases hsh
            have hname:(fn.name == "runtime.NumGoroutine")=false := hname
            -- the arguments
            unfold Yn at hr
            obtain ⟨v, l, rfl, q1⟩ := Hf (R.sat_good hr)
            rw [q1] at hr
            obtain ⟨s, l, rfl, q2⟩ := Hf (R.sat_good hr)
            rw [q2] at hr
            obtain ⟨rfl, q3⟩ := LK (R.sat_good hr)
            rw [q3] at hr
            obtain ⟨rfl, q4⟩ := Py (R.sat_good hr)
            rw [q4] at hr
            obtain ⟨it, caps, rfl, q5⟩ := R7 (R.sat_good hr)
            rw [q5] at hr
            obtain ⟨hmem, q6⟩ := KG (R.sat_good hr)
            rw [q6, BP, AT] at hr
            rcases K4.nx_eq n _ with ⟨m, e⟩ | ⟨n1, hn1, e⟩
            · rw [e] at hr; exact hr.elim
            rw [e, BP, AT] at hr
            rcases K4.nx_eq n1 _ with ⟨m, e⟩ | ⟨n2, hn2, e'⟩
            · rw [e] at hr; exact hr.elim
            rw [e'] at hr
            have hr := Eo hr
            rw [h2] at hr
            obtain ⟨X0, l0, hx0, r0', hl0⟩ := Aq.1 hxs
            obtain ⟨X1, l1, rfl, r1', hl1⟩ := Aq.1 hl0
            have hl1 := Aw.1 hl1
            subst hl1
            have hX0 := C5 r0'
            obtain ⟨cs, hX1, rcs⟩ := Jq r1'
            have hps:ps = #[par] := by cases ps; simp at eps; rw [eps]
            have hres:fn.results = #[.tmp 4] := by cases hh:fn.results with | mk l => rw [hh] at ers; simp at ers; rw [ers]
            -- the box
            obtain ⟨ga, fa⟩ := CN g (n' := n1) hn1 (e := tS) (fr := (0, 0)) (c := #[X0]) (cs := .l [.nil .sl]) (by simp [Cs.len]) (Kl _)
              (by have := Ew (ρ := ρ) (φ := φ) (l := [.nil .sl]) (xs := [X0]) (Aq.2 ⟨X0, [], rfl, r0', Aw.2 rfl⟩) (by simp [hX0, Cd, Value.oneCell']); simpa using this)
            generalize hW0:w.alloc (.cells #[X0] tS (0, 0))=W0 at ga fa
            have hb0:W0.heap[w.heap.size]? = some (.cells #[X0] tS (0, 0)) := by rw [←hW0]; exact World.alloc_heap_new w _
            have gb := ga.push (.deferred (some []))
            have fb := Fr.trans fa (Fr.push (h := Ae n h (some (.c (.l [.nil .sl]) false none))) (n := n1) (φ := EK φ n (w.heap.size, 0, (#[X0]:Array Value).size)) (.deferred (some [])))
            have hs0:W0.heap.size=w.heap.size+1 := by rw [←hW0, World.size_alloc]
            generalize htm:((((#[X0, X1]:Array Value)++Array.replicate (fn.ntmps - 2) undef).setIfInBounds 2 (.pointer (some ⟨w.heap.size, 0, none⟩))).setIfInBounds 4 c2).setIfInBounds 6 X1=tm
            have htsz:tm.size=13 := by rw [←htm, hnt]; simp
            have ht2:tm.getD 2 undef = .pointer (some ⟨w.heap.size, 0, none⟩) := by rw [←htm, hnt]; simp [Array.getD_eq_getD_getElem?]
            have ht6:tm.getD 6 undef=X1 := by rw [←htm, hnt]; simp [Array.getD_eq_getD_getElem?]
            intro o a K Q hK
            have hcf':(callFunc f #[X0, X1]).run P w = .ok (.enter f #[X0, X1]) w := by
              have hname':fn.name ≠ "runtime.NumGoroutine" := by simpa using hname
              simp [callFunc, hfn, hname', hbody]
            have hxe:xs = #[X0, X1] := by cases xs; simp at hx0; rw [hx0]
            rw [hxe, hcf']
            refine (callsIn_wide (n := 0)).1 (callsIn_of_wp_marks hfn hbody trivial ?_ rfl)
            have ev0:Act.eval { tmps := (#[X0, X1]:Array Value)++Array.replicate (fn.ntmps - (#[X0, X1]:Array Value).size) undef, defers := [] } (.tmp 0)=X0 := by
              simp [Act.eval, Array.getD_eq_getD_getElem?, Array.getElem?_append]
            have hcl:X0.cells = #[X0] := by rw [hX0]; rfl
            refine wpIn_seq (wpIn_region_list ?_)
            rw [e0]
            refine wpListIn_plain g1 fun K1 hK1 => BZ (x := .pointer (some ⟨w.heap.size, 0, none⟩)) (w' := W0) (by rw [←hW0]; simp only [execOp, p1, ev0]; simp [Instr.box, newVar, Fm, hcl]) (hK1 _ _ ?_)
            refine wpListIn_plain g2 fun K2 hK2 => BZ (x := c2) (w' := W0) (by simp [execOp, p2, Act.eval]) (hK2 _ _ ?_)
            refine wpListIn_nil ?_
            refine wpIn_seq (wpIn_seq (wpIn_region_list ?_))
            rw [e1]
            refine wpListIn_plain g3 fun K3 hK3 => BZ (x := X1) (w' := W0) (by simp only [execOp, p3, Act.eval, Act.put, d1, d2, hnt]; simp [Array.getD_eq_getD_getElem?, Array.getElem?_setIfInBounds]) (hK3 _ _ ?_)
            refine wpListIn_nil ?_
            refine wpIn_block (wpIn_rangeFunc fun fn' _ => ?_)
            have hact:((({ tmps := (#[X0, X1]:Array Value)++Array.replicate (fn.ntmps - (#[X0, X1]:Array Value).size) undef, defers := [] }:Act).put o1.dst (.pointer (some ⟨w.heap.size, 0, none⟩))).put o2.dst c2).put o3.dst X1={ tmps := tm, defers := [] } := by
              rw [d1, d2, d3, ←htm]; rfl
            rw [hact]
            generalize hWb:W0.alloc (.deferred (some []))=Wb at gb fb
            have hsb:Wb.heap.size=w.heap.size+2 := by rw [←hWb, World.size_alloc, hs0]
            have hDb:Wb.heap[w.heap.size+1]? = some (.deferred (some [])) := by rw [←hWb, ←hs0]; exact World.alloc_heap_new _ _
            have hn1':EK φ n (w.heap.size, 0, (#[X0]:Array Value).size) n1=none := gb.at_n
            have gc := gb.alloc (p := n1) (n' := n2) hn1' (by omega) (by omega) (.lp f n) rfl (.loop (G2 ⟨asg, bod, par, 2, 13⟩ fn' tm W0.heap.size)) 0
              (fun φ' hle w' hw' => ⟨rfl, ⟨asg, bod, par, 2, 13⟩, fn', tm, W0.heap.size, hA, hw', htsz, by rw [ht2]; exact Fq hle De⟩)
            have fc := Fr.trans fb (Fr.alloc (h := Ae n h (some (.c (.l [.nil .sl]) false none))) (w := Wb) (n := n1) (n' := n2) (p := n1) hn1' (by omega) (Nat.le_refl _) (by omega) (some (.lp f n)) (.loop (G2 ⟨asg, bod, par, 2, 13⟩ fn' tm W0.heap.size)) 0)
            generalize hWc:Wb.alloc (.loop (G2 ⟨asg, bod, par, 2, 13⟩ fn' tm W0.heap.size))=Wc at gc fc
            have hsc:Wc.heap.size=w.heap.size+3 := by rw [←hWc, World.size_alloc, hsb]
            have hDc:Wc.heap[w.heap.size+1]? = some (.deferred (some [])) := by rw [←hWc, Below.heap_alloc _ _ _ (by omega)]; exact hDb
            have hφn:φ n=none := g.at_n
            have hφn1:φ n1=none := by
              cases hx:φ n1 with
              | none => rfl
              | some x => have := g.dom n1 x hx; omega
            generalize hφc:EK (EK φ n (w.heap.size, 0, (#[X0]:Array Value).size)) n1 (Wb.heap.size, 0, 0)=φc at gc fc
            have hcn1:φc n1=some (w.heap.size+2, 0, 0) := by rw [←hφc, C6, hsb]
            have hnn:n1≠n := fun e => by rw [e] at hn1; omega
            have hcn:φc n=some (w.heap.size, 0, 1) := by rw [←hφc, HJ hnn, C6]; rfl
            have huD:XT φc (Ae n1 (Ae n h (some (.c (.l [.nil .sl]) false none))) (some (.lp f n))) (w.heap.size+1) := fun q s tot hq => by
              rw [←hφc] at hq
              rcases Az hq with ⟨_, e⟩ | ⟨_, hq⟩
              · simp only [Prod.mk.injEq] at e; omega
              · rcases Az hq with ⟨_, e⟩ | ⟨_, hq⟩
                · simp only [Prod.mk.injEq] at e; omega
                · have := (g.blk q _ _ _ hq).2; omega
            obtain ⟨fng, cg, hg1, hg2, hg3⟩ := hits it hmem
            have call := Ie hg1 hg2 (by simpa using hg3) (hcf it _ _ n2 _ hr φc Wc (#[.func (.yield (w.heap.size+2)) #[] #[]]++cs) gc (by
              rw [Array.toList_append]
              exact Aq.2 ⟨_, cs.toList, rfl, by simp only [Ap]; exact ⟨_, _, _, hcn1, rfl⟩, by rw [←hφc]; exact Gu (AO.le_trans (D6 hφn) (D6 hn1')) rcs⟩))
            refine ⟨w.heap.size+2, [{ target := .collected (w.heap.size+1), args := #[] }], Wc, { target := .fn (.func it) cs, args := #[.func (.yield (w.heap.size+2)) #[] #[]] }, Wc, it, #[.func (.yield (w.heap.size+2)) #[] #[]]++cs, Wc, ?_, ?_, ?_, ?_, fun h => (by cases h), ?_⟩
            · have := run_enterLoop_outer (P := P) (w := W0) fn' tm ps asg bod
              rw [hs0] at this
              show (Instr.enterLoop fn' tm ps asg bod none).run P W0=_
              rw [this, hWb, hps, ←hWc, hs0]; rfl
            · have e6:Act.eval { tmps := tm, defers := [] } (.tmp 6) = .func (.func it) #[] cs := by show tm.getD 6 undef=_; rw [ht6, hX1]
              simp only [resolve, rangeCall, e6, Deferred.ofValue]
              simp [Act.eval]
            · intro _ _; trivial
            · simp [invoke, callFunc, hg1, hg2, show fng.name ≠ "runtime.NumGoroutine" by simpa using hg3]
            · refine (callsIn_wide (n := 0)).2 (call.mono fun e w3 he => ?_)
              cases e with
              | panicked c => exact he.elim
              | outgrown => exact he.elim
              | returned u =>
              obtain ⟨v, h3, n3, φ3, hΦ, f3, g3', _⟩:∃ v h1 n1 φ', XZ _ Φ (.rv v h1 n1)∧Fr _ h1 φc φ' n2 n1 Wc w3∧Gam ρ B h1 n1 φ' w3∧Ap ρ φ' v u := he
              have hΦ:(Be n1 h3 fun o => WY o (JV n h3 fun cs _ _ => F8 cs 0 fun sv => BN n h3 none fun h => BN n1 h none fun h => .rv sv h n3)).sat Φ := hΦ
              rw [Bi] at hΦ
              obtain ⟨⟨f', b', hlp⟩, q7⟩ := TO (R.sat_good hΦ)
              rw [q7, Dj] at hΦ
              obtain ⟨cs3, sup3, prev3, hbx, q8⟩ := Dc (R.sat_good hΦ)
              rw [q8] at hΦ
              obtain ⟨sv, hsv, q9⟩ := HD (R.sat_good hΦ)
              rw [q9, BP, AT, BP, AT] at hΦ
              have hΦ:Φ (.rv sv (Ae n1 (Ae n h3 none) none) n3) := hΦ
              have h3n := f3.ext _ _ hcn
              have h3n1 := f3.ext _ _ hcn1
              obtain ⟨_, A3, fn3, tm3, D3, _, hrec, _, _⟩ := g3'.obj n1 _ _ _ _ hlp h3n1
              obtain ⟨c3, e3, fr3, k1, k2, k3, k4, k5⟩ := g3'.obj n _ _ _ _ hbx h3n
              obtain ⟨SV, hSV, rSV, _⟩ := k5 0 sv hsv
              have hD3:w3.heap[w.heap.size+1]? = some (.deferred (some [])) := (f3.old _ (by omega) huD).trans hDc
              have uD3 := huD.step (by omega) f3
              have ul3:XT φ3 (Ae n1 (Ae n h3 none) none) (w.heap.size+2) := fun q s tot hq => by
                by_cases e:n1=q
                · subst e; exact A6 _ _ _
                · rw [A8 _ _ e]
                  by_cases e':n=q
                  · subst e'; exact A6 _ _ _
                  · rw [A8 _ _ e']
                    cases hq':A9 q h3 with
                    | none => rfl
                    | some o2 =>
                      rcases g3'.sep n1 q _ o2 _ _ _ s tot e hlp hq' h3n1 hq with e2 | e2
                      · cases e2
                      · have := g3'.sup q n1 o2 _ _ s tot _ _ hq' e2 hlp hq h3n1; cases this
              refine ⟨none, w3.putObj (w.heap.size+2) (.loop { G2 A3 fn3 tm3 D3 with state := .exhausted }), run_endLoop hrec (by simp), ?_⟩
              refine wpIn_seq (wpIn_region_list ?_)
              rw [e4]
              generalize hw4:w3.putObj (w.heap.size+2) (.loop { G2 A3 fn3 tm3 D3 with state := .exhausted })=w4
              have hb4:w4.heap[w.heap.size]? = some (.cells c3 e3 fr3) := by rw [←hw4, World.putObj_heap_other (by omega)]; exact k1
              have hD4:w4.heap[w.heap.size+1]? = some (.deferred (some [])) := by rw [←hw4, World.putObj_heap_other (by omega)]; exact hD3
              have hld:(execOp (Act.eval { tmps := tm, defers := [{ target := .collected (w.heap.size+1), args := #[] }]++[] }) o4).run P w4 = .ok (.value SV) w4 := by
                have e2:Act.eval { tmps := tm, defers := [{ target := .collected (w.heap.size+1), args := #[] }]++[] } (.tmp 2) = .pointer (some ⟨w.heap.size, 0, none⟩) := ht2
                simp only [execOp, p4, e2]
                simp [Instr.loadAt, Instr.sureAddr, loadVar, Cj hagg, GG hb4 hSV]
              refine wpListIn_plain g4 fun K4 hK4 => BZ hld (hK4 _ _ ?_)
              refine wpListIn_plain g5 fun K5 hK5 => BZ (x := SV) (w' := w4) (by
                simp only [execOp, p5, Act.eval, Act.put, d4]; simp [Array.getD_eq_getD_getElem?, htsz]) (hK5 _ _ ?_)
              refine wpListIn_nil (wpIn_ret ?_)
              have take := run_takeDeferred (P := P) hD4
              rw [d4, d5]
              show LeavesInM Fence.wide 0 P fn _ _ [{ target := .collected (w.heap.size+1), args := #[] }] .returning w4
              unfold LeavesInM
              refine ⟨(by intro h; cases h), .inl ⟨w.heap.size+1, _, rfl, take, ?_⟩⟩
              unfold LeavesInM LeavesIn
              refine ⟨SV, ?_, ?_⟩
              · simp [results, hres, Act.put, htsz, Array.getD_eq_getD_getElem?]
              · have hna:∀ q, φ q≠none->A9 q (Ae n1 (Ae n h3 none) none)=A9 q h3 := fun q hq => by
                  rw [A8 _ _ (fun e:n1=q => hq (by rw [←e]; exact hφn1)), A8 _ _ (fun e:n=q => hq (by rw [←e]; exact hφn))]
                have fz := ((Fr.trans fc f3).show hna).poke (l := w.heap.size+2) (.loop { G2 A3 fn3 tm3 D3 with state := .exhausted }) (by omega)
                have gz := (g3'.aside (p := n)).aside (p := n1)
                have gz := gz.poke ul3 (.loop { G2 A3 fn3 tm3 D3 with state := .exhausted }) (fun c e fr h => by rw [hrec] at h; cases h)
                rw [hw4] at fz gz
                have uDz:XT φ3 (Ae n1 (Ae n h3 none) none) (w.heap.size+1) := fun q s tot hq => by
                  by_cases e:n1=q
                  · subst e; exact A6 _ _ _
                  · rw [A8 _ _ e]
                    by_cases e':n=q
                    · subst e'; exact A6 _ _ _
                    · rw [A8 _ _ e']; exact uD3 q s tot hq
                exact hK SV _ ⟨sv, _, n3, φ3, hΦ, fz.poke _ (by omega), gz.poke uDz _ (fun c e fr h => by rw [hD4] at h; cases h), rSV⟩
          next => cases hsh
        next => cases hsh
      next => cases hsh
    next => cases hsh
  next => cases hsh
end
end Go.Ev
