/- AN EVALUATOR OF THE MODEL OF Go, PROVED SOUND, PART 4: what it says of a call holds in every world, on every tape. Conditions: none of its own; each theorem bears its premises. -/
import Derived.Test.YtdgefeadbcbglaaDoorMEv3
import Derived.Maps.RangeRun
import Derived.RangeFuncIn
import Derived.RangeFuncRecord
import Derived.TacticsIn
noncomputable section
set_option linter.unusedSimpArgs false
set_option linter.unusedVariables false
namespace Go.Ev
set_option linter.unusedVariables false
/-- Two kinds that are one: its modulus. -/
def kM0 (j:IntKind) (κ:Nat->R):R := @IntKind.rec (fun _ => R) (κ 256) (.fail "") (.fail "") (.fail "") (.fail "") (.fail "") (.fail "") (.fail "") j
def kM1 (j:IntKind) (κ:Nat->R):R := @IntKind.rec (fun _ => R) (.fail "") (κ 65536) (.fail "") (.fail "") (.fail "") (.fail "") (.fail "") (.fail "") j
def kM2 (j:IntKind) (κ:Nat->R):R := @IntKind.rec (fun _ => R) (.fail "") (.fail "") (κ 4294967296) (.fail "") (.fail "") (.fail "") (.fail "") (.fail "") j
def kM3 (j:IntKind) (κ:Nat->R):R := @IntKind.rec (fun _ => R) (.fail "") (.fail "") (.fail "") (κ 18446744073709551616) (.fail "") (.fail "") (.fail "") (.fail "") j
def kM4 (j:IntKind) (κ:Nat->R):R := @IntKind.rec (fun _ => R) (.fail "") (.fail "") (.fail "") (.fail "") (κ 256) (.fail "") (.fail "") (.fail "") j
def kM5 (j:IntKind) (κ:Nat->R):R := @IntKind.rec (fun _ => R) (.fail "") (.fail "") (.fail "") (.fail "") (.fail "") (κ 65536) (.fail "") (.fail "") j
def kM6 (j:IntKind) (κ:Nat->R):R := @IntKind.rec (fun _ => R) (.fail "") (.fail "") (.fail "") (.fail "") (.fail "") (.fail "") (κ 4294967296) (.fail "") j
def kM7 (j:IntKind) (κ:Nat->R):R := @IntKind.rec (fun _ => R) (.fail "") (.fail "") (.fail "") (.fail "") (.fail "") (.fail "") (.fail "") (κ 18446744073709551616) j
def kM (k:IntKind):IntKind->(Nat->R)->R := @IntKind.rec (fun _ => IntKind->(Nat->R)->R) kM0 kM1 kM2 kM3 kM4 kM5 kM6 kM7 k
theorem Oz (k j:IntKind) (κ:Nat->R):kM k j κ=br (Bk k j) (κ (Mk k)) (.fail "") := by cases k <;> cases j <;> rfl
/-- Two kinds that are one: where its negative numbers begin. -/
def kH0 (j:IntKind) (κ:Nat->R):R := @IntKind.rec (fun _ => R) (κ 128) (.fail "") (.fail "") (.fail "") (.fail "") (.fail "") (.fail "") (.fail "") j
def kH1 (j:IntKind) (κ:Nat->R):R := @IntKind.rec (fun _ => R) (.fail "") (κ 32768) (.fail "") (.fail "") (.fail "") (.fail "") (.fail "") (.fail "") j
def kH2 (j:IntKind) (κ:Nat->R):R := @IntKind.rec (fun _ => R) (.fail "") (.fail "") (κ 2147483648) (.fail "") (.fail "") (.fail "") (.fail "") (.fail "") j
def kH3 (j:IntKind) (κ:Nat->R):R := @IntKind.rec (fun _ => R) (.fail "") (.fail "") (.fail "") (κ 9223372036854775808) (.fail "") (.fail "") (.fail "") (.fail "") j
def kH4 (j:IntKind) (κ:Nat->R):R := @IntKind.rec (fun _ => R) (.fail "") (.fail "") (.fail "") (.fail "") (κ 256) (.fail "") (.fail "") (.fail "") j
def kH5 (j:IntKind) (κ:Nat->R):R := @IntKind.rec (fun _ => R) (.fail "") (.fail "") (.fail "") (.fail "") (.fail "") (κ 65536) (.fail "") (.fail "") j
def kH6 (j:IntKind) (κ:Nat->R):R := @IntKind.rec (fun _ => R) (.fail "") (.fail "") (.fail "") (.fail "") (.fail "") (.fail "") (κ 4294967296) (.fail "") j
def kH7 (j:IntKind) (κ:Nat->R):R := @IntKind.rec (fun _ => R) (.fail "") (.fail "") (.fail "") (.fail "") (.fail "") (.fail "") (.fail "") (κ 18446744073709551616) j
def kH (k:IntKind):IntKind->(Nat->R)->R := @IntKind.rec (fun _ => IntKind->(Nat->R)->R) kH0 kH1 kH2 kH3 kH4 kH5 kH6 kH7 k
theorem QB (k j:IntKind) (κ:Nat->R):kH k j κ=br (Bk k j) (κ (Hk k)) (.fail "") := by cases k <;> cases j <;> rfl
def UA (H a b:Nat):Bool := br (Nat.ble H a) (br (Nat.ble H b) (Nat.ble (Nat.succ a) b) true) (br (Nat.ble H b) false (Nat.ble (Nat.succ a) b))
theorem Tk (k:IntKind) (a b:Nat):UA (Hk k) a b=DK k a b := rfl
def AY (v:V) (a b:R):R := @V.rec (fun _ => R) (fun _ => Unit) (AG "") (fun q => @Bool.rec (fun _ => R) b a q) (AG "") (DN "") (AG "") (AG "") (AV "") (AV "") (Cb "") (AG "") (fun o => @Ot.rec (fun _ => R) (.fail "") (fun _ => (.fail "")) (fun _ => (.fail "")) (.fail "") (fun _ _ _ => (.fail "")) (fun _ _ => (.fail "")) (.both a b) (fun _ _ => (.fail "")) (fun _ _ _ _ => (.fail "")) (fun _ _ _ _ => (.fail "")) (fun _ _ _ => (.fail "")) (fun _ _ => (.fail "")) (fun _ _ => (.fail "")) (fun _ _ _ => (.fail "")) (fun _ => (.fail "")) o) () (fun _ _ _ _ => ()) v
def AA (q a b:V) (κ:V->R):R := @V.rec (fun _ => R) (fun _ => Unit) (AG "") (fun q => @Bool.rec (fun _ => R) (κ b) (κ a) q) (AG "") (DN "") (AG "") (AG "") (AV "") (AV "") (Cb "") (AG "") (AV "") () (fun _ _ _ _ => ()) q
theorem S9 (q a b:V) (κ:V->R):AA q a b κ=P3 q fun q => br q (κ a) (κ b) := by cases q <;> rfl
def Ap (u v:V) (κ:V->R):R :=
  @V.rec (fun _ => R) (fun _ => Unit) (fun k a => @V.rec (fun _ => R) (fun _ => Unit) (fun j b => kM k j fun M => Ab (Nat.mod (Nat.add a b) M) fun r => κ (.int k r)) (AV "") (AG "") (DN "") (AG "") (AG "") (AV "") (AV "") (Cb "") (AG "") (fun _ => JT .add u v κ) () (fun _ _ _ _ => ()) v) (AV "") (AG "") (DN "") (fun n c => Be v fun m d => WL n c m d κ) (AG "") (AV "") (AV "") (Cb "") (AG "") (fun _ => CD .add u v κ) () (fun _ _ _ _ => ()) u
def C7 (u v:V) (κ:V->R):R :=
  @V.rec (fun _ => R) (fun _ => Unit) (fun k a => @V.rec (fun _ => R) (fun _ => Unit) (fun j b => kM k j fun M => Ab (Nat.mod (Nat.add a (Nat.sub M b)) M) fun r => κ (.int k r)) (AV "") (AG "") (DN "") (AG "") (AG "") (AV "") (AV "") (Cb "") (AG "") (fun _ => JT .sub u v κ) () (fun _ _ _ _ => ()) v) (AV "") (AG "") (DN "") (fun n c => Be v fun m d => .fail "") (AG "") (AV "") (AV "") (Cb "") (AG "") (fun _ => CD .sub u v κ) () (fun _ _ _ _ => ()) u
def Fd (u v:V) (κ:V->R):R :=
  @V.rec (fun _ => R) (fun _ => Unit) (fun k a => @V.rec (fun _ => R) (fun _ => Unit) (fun j b => kM k j fun M => Ab (Nat.mod (Nat.mul a b) M) fun r => κ (.int k r)) (AV "") (AG "") (DN "") (AG "") (AG "") (AV "") (AV "") (Cb "") (AG "") (fun _ => JT .mul u v κ) () (fun _ _ _ _ => ()) v) (AV "") (AG "") (DN "") (fun n c => Be v fun m d => .fail "") (AG "") (AV "") (AV "") (Cb "") (AG "") (fun _ => CD .mul u v κ) () (fun _ _ _ _ => ()) u
def M6 (u v:V) (κ:V->R):R :=
  @V.rec (fun _ => R) (fun _ => Unit) (fun k a => @V.rec (fun _ => R) (fun _ => Unit) (fun j b => R3 k a j b κ) (AV "") (AG "") (DN "") (AG "") (AG "") (AV "") (AV "") (Cb "") (AG "") (fun _ => JT .quo u v κ) () (fun _ _ _ _ => ()) v) (AV "") (AG "") (DN "") (fun n c => Be v fun m d => .fail "") (AG "") (AV "") (AV "") (Cb "") (AG "") (fun _ => CD .quo u v κ) () (fun _ _ _ _ => ()) u
def NH (u v:V) (κ:V->R):R :=
  @V.rec (fun _ => R) (fun _ => Unit) (fun k a => @V.rec (fun _ => R) (fun _ => Unit) (fun j b => Lc k a j b κ) (AV "") (AG "") (DN "") (AG "") (AG "") (AV "") (AV "") (Cb "") (AG "") (fun _ => JT .rem u v κ) () (fun _ _ _ _ => ()) v) (AV "") (AG "") (DN "") (fun n c => Be v fun m d => .fail "") (AG "") (AV "") (AV "") (Cb "") (AG "") (fun _ => CD .rem u v κ) () (fun _ _ _ _ => ()) u
def SU (u v:V) (κ:V->R):R :=
  @V.rec (fun _ => R) (fun _ => Unit) (fun k a => @V.rec (fun _ => R) (fun _ => Unit) (fun j b => Tj k a j b κ) (AV "") (AG "") (DN "") (AG "") (AG "") (AV "") (AV "") (Cb "") (AG "") (fun _ => JT .and u v κ) () (fun _ _ _ _ => ()) v) (AV "") (AG "") (DN "") (fun n c => Be v fun m d => .fail "") (AG "") (AV "") (AV "") (Cb "") (AG "") (fun _ => CD .and u v κ) () (fun _ _ _ _ => ()) u
def Xb (u v:V) (κ:V->R):R :=
  @V.rec (fun _ => R) (fun _ => Unit) (fun k a => @V.rec (fun _ => R) (fun _ => Unit) (fun j b => XK k a j b κ) (AV "") (AG "") (DN "") (AG "") (AG "") (AV "") (AV "") (Cb "") (AG "") (fun _ => JT .or u v κ) () (fun _ _ _ _ => ()) v) (AV "") (AG "") (DN "") (fun n c => Be v fun m d => .fail "") (AG "") (AV "") (AV "") (Cb "") (AG "") (fun _ => CD .or u v κ) () (fun _ _ _ _ => ()) u
def Wf (u v:V) (κ:V->R):R :=
  @V.rec (fun _ => R) (fun _ => Unit) (fun k a => @V.rec (fun _ => R) (fun _ => Unit) (fun j b => S3 k a j b κ) (AV "") (AG "") (DN "") (AG "") (AG "") (AV "") (AV "") (Cb "") (AG "") (fun _ => JT .xor u v κ) () (fun _ _ _ _ => ()) v) (AV "") (AG "") (DN "") (fun n c => Be v fun m d => .fail "") (AG "") (AV "") (AV "") (Cb "") (AG "") (fun _ => CD .xor u v κ) () (fun _ _ _ _ => ()) u
def VH (u v:V) (κ:V->R):R :=
  @V.rec (fun _ => R) (fun _ => Unit) (fun k a => @V.rec (fun _ => R) (fun _ => Unit) (fun j b => T4 k a j b κ) (AV "") (AG "") (DN "") (AG "") (AG "") (AV "") (AV "") (Cb "") (AG "") (fun _ => JT .shl u v κ) () (fun _ _ _ _ => ()) v) (AV "") (AG "") (DN "") (fun n c => Be v fun m d => .fail "") (AG "") (AV "") (AV "") (Cb "") (AG "") (fun _ => CD .shl u v κ) () (fun _ _ _ _ => ()) u
def Vv (u v:V) (κ:V->R):R :=
  @V.rec (fun _ => R) (fun _ => Unit) (fun k a => @V.rec (fun _ => R) (fun _ => Unit) (fun j b => Rg k a j b κ) (AV "") (AG "") (DN "") (AG "") (AG "") (AV "") (AV "") (Cb "") (AG "") (fun _ => JT .shr u v κ) () (fun _ _ _ _ => ()) v) (AV "") (AG "") (DN "") (fun n c => Be v fun m d => .fail "") (AG "") (AV "") (AV "") (Cb "") (AG "") (fun _ => CD .shr u v κ) () (fun _ _ _ _ => ()) u
def Tl (u v:V) (κ:V->R):R :=
  @V.rec (fun _ => R) (fun _ => Unit) (fun k a => @V.rec (fun _ => R) (fun _ => Unit) (fun j b => OV k a j b κ) (AV "") (AG "") (DN "") (AG "") (AG "") (AV "") (AV "") (Cb "") (AG "") (fun _ => JT .andNot u v κ) () (fun _ _ _ _ => ()) v) (AV "") (AG "") (DN "") (fun n c => Be v fun m d => .fail "") (AG "") (AV "") (AV "") (Cb "") (AG "") (fun _ => CD .andNot u v κ) () (fun _ _ _ _ => ()) u
def AW (u v:V) (κ:V->R):R :=
  @V.rec (fun _ => R) (fun _ => Unit) (fun k a => @V.rec (fun _ => R) (fun _ => Unit) (fun j b => kM k j fun _ => Cn (Nat.beq a b) fun r => κ (.bool r)) (AV "") (AG "") (DN "") (AG "") (AG "") (AV "") (AV "") (Cb "") (AG "") (fun _ => JT .eql u v κ) () (fun _ _ _ _ => ()) v) (AV "") (AG "") (DN "") (fun n c => Be v fun m d => Wz n c m d κ) (AG "") (AV "") (AV "") (Cb "") (AG "") (fun _ => CD .eql u v κ) () (fun _ _ _ _ => ()) u
def B4 (u v:V) (κ:V->R):R :=
  @V.rec (fun _ => R) (fun _ => Unit) (fun k a => @V.rec (fun _ => R) (fun _ => Unit) (fun j b => kM k j fun _ => br (Nat.beq a b) (κ (.bool false)) (κ (.bool true))) (AV "") (AG "") (DN "") (AG "") (AG "") (AV "") (AV "") (Cb "") (AG "") (fun _ => JT .neq u v κ) () (fun _ _ _ _ => ()) v) (AV "") (AG "") (DN "") (fun n c => Be v fun m d => sne n c m d κ) (AG "") (AV "") (AV "") (Cb "") (AG "") (fun _ => CD .neq u v κ) () (fun _ _ _ _ => ()) u
def AR (u v:V) (κ:V->R):R :=
  @V.rec (fun _ => R) (fun _ => Unit) (fun k a => @V.rec (fun _ => R) (fun _ => Unit) (fun j b => kH k j fun H => Cn (UA H a b) fun r => κ (.bool r)) (AV "") (AG "") (DN "") (AG "") (AG "") (AV "") (AV "") (Cb "") (AG "") (fun _ => JT .lss u v κ) () (fun _ _ _ _ => ()) v) (AV "") (AG "") (DN "") (fun n c => Be v fun m d => slt n c m d κ) (AG "") (AV "") (AV "") (Cb "") (AG "") (fun _ => CD .lss u v κ) () (fun _ _ _ _ => ()) u
def EA (u v:V) (κ:V->R):R :=
  @V.rec (fun _ => R) (fun _ => Unit) (fun k a => @V.rec (fun _ => R) (fun _ => Unit) (fun j b => kH k j fun H => br (UA H b a) (κ (.bool false)) (κ (.bool true))) (AV "") (AG "") (DN "") (AG "") (AG "") (AV "") (AV "") (Cb "") (AG "") (fun _ => JT .leq u v κ) () (fun _ _ _ _ => ()) v) (AV "") (AG "") (DN "") (fun n c => Be v fun m d => .fail "") (AG "") (AV "") (AV "") (Cb "") (AG "") (fun _ => CD .leq u v κ) () (fun _ _ _ _ => ()) u
def C3 (u v:V) (κ:V->R):R :=
  @V.rec (fun _ => R) (fun _ => Unit) (fun k a => @V.rec (fun _ => R) (fun _ => Unit) (fun j b => kH k j fun H => Cn (UA H b a) fun r => κ (.bool r)) (AV "") (AG "") (DN "") (AG "") (AG "") (AV "") (AV "") (Cb "") (AG "") (fun _ => JT .gtr u v κ) () (fun _ _ _ _ => ()) v) (AV "") (AG "") (DN "") (fun n c => Be v fun m d => .fail "") (AG "") (AV "") (AV "") (Cb "") (AG "") (fun _ => CD .gtr u v κ) () (fun _ _ _ _ => ()) u
def DU (u v:V) (κ:V->R):R :=
  @V.rec (fun _ => R) (fun _ => Unit) (fun k a => @V.rec (fun _ => R) (fun _ => Unit) (fun j b => kH k j fun H => br (UA H a b) (κ (.bool false)) (κ (.bool true))) (AV "") (AG "") (DN "") (AG "") (AG "") (AV "") (AV "") (Cb "") (AG "") (fun _ => JT .geq u v κ) () (fun _ _ _ _ => ()) v) (AV "") (AG "") (DN "") (fun n c => Be v fun m d => sge n c m d κ) (AG "") (AV "") (AV "") (Cb "") (AG "") (fun _ => CD .geq u v κ) () (fun _ _ _ _ => ()) u
abbrev Xk (op:BinOp):V->V->(V->R)->R := @BinOp.rec (fun _ => V->V->(V->R)->R) Ap C7 Fd M6 NH SU Xb Wf VH Vv Tl AW B4 AR EA C3 DU op
theorem Qo (op:BinOp) (u v:V) (κ:V->R):Xk op u v κ=Lf op u v κ := by
  cases u with
  | int k a =>
    cases v with
    | int j b =>
      cases op
      case add => cases k <;> cases j <;> rfl
      case sub => cases k <;> cases j <;> rfl
      case mul => cases k <;> cases j <;> rfl
      case eql => cases k <;> cases j <;> rfl
      case neq => cases k <;> cases j <;> rfl
      case lss => cases k <;> cases j <;> rfl
      case leq => cases k <;> cases j <;> rfl
      case gtr => cases k <;> cases j <;> rfl
      case geq => cases k <;> cases j <;> rfl
      all_goals rfl
    | _ => cases op <;> rfl
  | str n c => cases op <;> rfl
  | _ => cases op <;> rfl
/-- A value of one cell put at a place of a list. -/
def C8 (m:Nat):List V->V->(List V->R)->R :=
  @Nat.rec (fun _ => List V->V->(List V->R)->R) (fun xs v k => @List.rec V (fun _ => R) (.fail "") (fun _ ys _ => k (v::ys)) xs)
    (fun _ ih xs v k => @List.rec V (fun _ => R) (.fail "") (fun x ys _ => ih ys v fun zs => k (x::zs)) xs) m
def Ql (off size:Nat) (z:List V) (κ:List V->R) (l:List V):R := Gk l fun m => br (Nat.beq m size) (L9 z off l κ) (.fail "")
def FQ (off size:Nat) (v:V) (z:List V) (κ:List V->R):R := Eb v (Ql off size z κ)
/-- A part of one cell. -/
def Ag (off:Nat) (v:V) (z:List V) (κ:List V->R):R :=
  @V.rec (fun _ => R) (fun _ => Unit) (fun _ _ => C8 off z v κ) (fun _ => C8 off z v κ) (fun _ _ => C8 off z v κ) (fun _ _ _ _ _ _ => C8 off z v κ) (fun _ _ => C8 off z v κ) (fun l _ => Ql off 1 z κ l) (fun _ => C8 off z v κ) (fun _ => C8 off z v κ) (fun _ _ _ => C8 off z v κ) (AG "") (fun o => @Ot.rec (fun _ => R) (.fail "") (fun _ => C8 off z v κ) (AV "") (.fail "") (fun _ _ _ => C8 off z v κ) (fun _ _ => C8 off z v κ) (C8 off z v κ) (fun _ _ => C8 off z v κ) (fun _ _ _ _ => C8 off z v κ) (fun _ _ _ _ => C8 off z v κ) (fun _ _ _ => C8 off z v κ) (fun _ _ => C8 off z v κ) (fun _ _ => C8 off z v κ) (fun _ _ _ => C8 off z v κ) (fun _ => C8 off z v κ) o) () (fun _ _ _ _ => ()) v
theorem JZ (off:Nat):∀ (z:List V) (v:V) (κ:List V->R), C8 off z v κ=L9 z off [v] κ := by
  induction off with
  | zero => intro z v κ; cases z <;> rfl
  | succ off ih =>
    intro z v κ
    cases z with
    | nil => rfl
    | cons x z =>
      have e1:C8 (off+1) (x::z) v κ=C8 off z v fun zs => κ (x::zs) := rfl
      rw [e1, ih]
      have e2:L9 (x::z) (off+1) [v] κ=D6 (off+1) (x::z) fun a => Du (off+2) (x::z) fun b => EH [v] b fun t => EH a t κ := rfl
      have e3:L9 z off [v] (fun zs => κ (x::zs))=D6 off z fun a => Du (off+1) z fun b => EH [v] b fun t => EH a t fun zs => κ (x::zs) := rfl
      rw [e2, e3]
      have e4:∀ F:List V->R, D6 (off+1) (x::z) F=D6 off z fun a => F (x::a) := fun F => rfl
      rw [e4]; rfl
theorem PO (off:Nat) (v:V) (z:List V) (κ:List V->R):Ag off v z κ=FQ off 1 v z κ := by
  cases v with
  | agg l => rfl
  | tup l => rfl
  | oth o => cases o with
    | any => rfl
    | yl p => rfl
    | no => rfl
    | _ => exact JZ off z _ κ
  | _ => exact JZ off z _ κ
abbrev Ij (off size:Nat) (v:V) (z:List V) (κ:List V->R):R := @Bool.rec (fun _ => R) (FQ off size v z κ) (Ag off v z κ) (Nat.beq size 1)
theorem PJ (off size:Nat) (v:V) (z:List V) (κ:List V->R):Ij off size v z κ=FQ off size v z κ := by
  unfold Ij
  cases hb:Nat.beq size 1 with
  | true => rw [Nat.eq_of_beq_eq_true hb]; exact PO off v z κ
  | false => rfl
def HA.selR (d:D):HA->(Cx->R)->R :=
  @D.rec (fun _ => HA->(Cx->R)->R) (fun p k => @HA.rec (fun _ => R) (fun A B C E F G I J L M N O P Q T U => k A) p) (fun p k => @HA.rec (fun _ => R) (fun A B C E F G I J L M N O P Q T U => k B) p) (fun p k => @HA.rec (fun _ => R) (fun A B C E F G I J L M N O P Q T U => k C) p) (fun p k => @HA.rec (fun _ => R) (fun A B C E F G I J L M N O P Q T U => k E) p) (fun p k => @HA.rec (fun _ => R) (fun A B C E F G I J L M N O P Q T U => k F) p) (fun p k => @HA.rec (fun _ => R) (fun A B C E F G I J L M N O P Q T U => k G) p) (fun p k => @HA.rec (fun _ => R) (fun A B C E F G I J L M N O P Q T U => k I) p) (fun p k => @HA.rec (fun _ => R) (fun A B C E F G I J L M N O P Q T U => k J) p) (fun p k => @HA.rec (fun _ => R) (fun A B C E F G I J L M N O P Q T U => k L) p) (fun p k => @HA.rec (fun _ => R) (fun A B C E F G I J L M N O P Q T U => k M) p) (fun p k => @HA.rec (fun _ => R) (fun A B C E F G I J L M N O P Q T U => k N) p) (fun p k => @HA.rec (fun _ => R) (fun A B C E F G I J L M N O P Q T U => k O) p) (fun p k => @HA.rec (fun _ => R) (fun A B C E F G I J L M N O P Q T U => k P) p) (fun p k => @HA.rec (fun _ => R) (fun A B C E F G I J L M N O P Q T U => k Q) p) (fun p k => @HA.rec (fun _ => R) (fun A B C E F G I J L M N O P Q T U => k T) p) (fun p k => @HA.rec (fun _ => R) (fun A B C E F G I J L M N O P Q T U => k U) p) d
theorem HA.selR_eq (d:D) (p:HA) (k:Cx->R):HA.selR d p k=k (HA.sel d p) := by
  cases d <;> cases p <;> rfl
def HA.opR (d:D):HA->(Cx->(Cx->(HA->R)->R)->R)->R :=
  @D.rec (fun _ => HA->(Cx->(Cx->(HA->R)->R)->R)->R) (fun p k => @HA.rec (fun _ => R) (fun A B C E F G I J L M N O P Q T U => k A fun v q => q (.mk v B C E F G I J L M N O P Q T U)) p) (fun p k => @HA.rec (fun _ => R) (fun A B C E F G I J L M N O P Q T U => k B fun v q => q (.mk A v C E F G I J L M N O P Q T U)) p) (fun p k => @HA.rec (fun _ => R) (fun A B C E F G I J L M N O P Q T U => k C fun v q => q (.mk A B v E F G I J L M N O P Q T U)) p) (fun p k => @HA.rec (fun _ => R) (fun A B C E F G I J L M N O P Q T U => k E fun v q => q (.mk A B C v F G I J L M N O P Q T U)) p) (fun p k => @HA.rec (fun _ => R) (fun A B C E F G I J L M N O P Q T U => k F fun v q => q (.mk A B C E v G I J L M N O P Q T U)) p) (fun p k => @HA.rec (fun _ => R) (fun A B C E F G I J L M N O P Q T U => k G fun v q => q (.mk A B C E F v I J L M N O P Q T U)) p) (fun p k => @HA.rec (fun _ => R) (fun A B C E F G I J L M N O P Q T U => k I fun v q => q (.mk A B C E F G v J L M N O P Q T U)) p) (fun p k => @HA.rec (fun _ => R) (fun A B C E F G I J L M N O P Q T U => k J fun v q => q (.mk A B C E F G I v L M N O P Q T U)) p) (fun p k => @HA.rec (fun _ => R) (fun A B C E F G I J L M N O P Q T U => k L fun v q => q (.mk A B C E F G I J v M N O P Q T U)) p) (fun p k => @HA.rec (fun _ => R) (fun A B C E F G I J L M N O P Q T U => k M fun v q => q (.mk A B C E F G I J L v N O P Q T U)) p) (fun p k => @HA.rec (fun _ => R) (fun A B C E F G I J L M N O P Q T U => k N fun v q => q (.mk A B C E F G I J L M v O P Q T U)) p) (fun p k => @HA.rec (fun _ => R) (fun A B C E F G I J L M N O P Q T U => k O fun v q => q (.mk A B C E F G I J L M N v P Q T U)) p) (fun p k => @HA.rec (fun _ => R) (fun A B C E F G I J L M N O P Q T U => k P fun v q => q (.mk A B C E F G I J L M N O v Q T U)) p) (fun p k => @HA.rec (fun _ => R) (fun A B C E F G I J L M N O P Q T U => k Q fun v q => q (.mk A B C E F G I J L M N O P v T U)) p) (fun p k => @HA.rec (fun _ => R) (fun A B C E F G I J L M N O P Q T U => k T fun v q => q (.mk A B C E F G I J L M N O P Q v U)) p) (fun p k => @HA.rec (fun _ => R) (fun A B C E F G I J L M N O P Q T U => k U fun v q => q (.mk A B C E F G I J L M N O P Q T v)) p) d
theorem HA.opR_eq (d:D) (p:HA) (k:Cx->(Cx->(HA->R)->R)->R):HA.opR d p k=k (HA.sel d p) fun v q => q (HA.setS d p v) := by
  cases d <;> cases p <;> rfl
def HB.selR (d:D):HB->(HA->R)->R :=
  @D.rec (fun _ => HB->(HA->R)->R) (fun p k => @HB.rec (fun _ => R) (fun A B C E F G I J L M N O P Q T U => k A) p) (fun p k => @HB.rec (fun _ => R) (fun A B C E F G I J L M N O P Q T U => k B) p) (fun p k => @HB.rec (fun _ => R) (fun A B C E F G I J L M N O P Q T U => k C) p) (fun p k => @HB.rec (fun _ => R) (fun A B C E F G I J L M N O P Q T U => k E) p) (fun p k => @HB.rec (fun _ => R) (fun A B C E F G I J L M N O P Q T U => k F) p) (fun p k => @HB.rec (fun _ => R) (fun A B C E F G I J L M N O P Q T U => k G) p) (fun p k => @HB.rec (fun _ => R) (fun A B C E F G I J L M N O P Q T U => k I) p) (fun p k => @HB.rec (fun _ => R) (fun A B C E F G I J L M N O P Q T U => k J) p) (fun p k => @HB.rec (fun _ => R) (fun A B C E F G I J L M N O P Q T U => k L) p) (fun p k => @HB.rec (fun _ => R) (fun A B C E F G I J L M N O P Q T U => k M) p) (fun p k => @HB.rec (fun _ => R) (fun A B C E F G I J L M N O P Q T U => k N) p) (fun p k => @HB.rec (fun _ => R) (fun A B C E F G I J L M N O P Q T U => k O) p) (fun p k => @HB.rec (fun _ => R) (fun A B C E F G I J L M N O P Q T U => k P) p) (fun p k => @HB.rec (fun _ => R) (fun A B C E F G I J L M N O P Q T U => k Q) p) (fun p k => @HB.rec (fun _ => R) (fun A B C E F G I J L M N O P Q T U => k T) p) (fun p k => @HB.rec (fun _ => R) (fun A B C E F G I J L M N O P Q T U => k U) p) d
theorem HB.selR_eq (d:D) (p:HB) (k:HA->R):HB.selR d p k=k (HB.sel d p) := by
  cases d <;> cases p <;> rfl
def HB.opR (d:D):HB->(HA->(HA->(HB->R)->R)->R)->R :=
  @D.rec (fun _ => HB->(HA->(HA->(HB->R)->R)->R)->R) (fun p k => @HB.rec (fun _ => R) (fun A B C E F G I J L M N O P Q T U => k A fun v q => q (.mk v B C E F G I J L M N O P Q T U)) p) (fun p k => @HB.rec (fun _ => R) (fun A B C E F G I J L M N O P Q T U => k B fun v q => q (.mk A v C E F G I J L M N O P Q T U)) p) (fun p k => @HB.rec (fun _ => R) (fun A B C E F G I J L M N O P Q T U => k C fun v q => q (.mk A B v E F G I J L M N O P Q T U)) p) (fun p k => @HB.rec (fun _ => R) (fun A B C E F G I J L M N O P Q T U => k E fun v q => q (.mk A B C v F G I J L M N O P Q T U)) p) (fun p k => @HB.rec (fun _ => R) (fun A B C E F G I J L M N O P Q T U => k F fun v q => q (.mk A B C E v G I J L M N O P Q T U)) p) (fun p k => @HB.rec (fun _ => R) (fun A B C E F G I J L M N O P Q T U => k G fun v q => q (.mk A B C E F v I J L M N O P Q T U)) p) (fun p k => @HB.rec (fun _ => R) (fun A B C E F G I J L M N O P Q T U => k I fun v q => q (.mk A B C E F G v J L M N O P Q T U)) p) (fun p k => @HB.rec (fun _ => R) (fun A B C E F G I J L M N O P Q T U => k J fun v q => q (.mk A B C E F G I v L M N O P Q T U)) p) (fun p k => @HB.rec (fun _ => R) (fun A B C E F G I J L M N O P Q T U => k L fun v q => q (.mk A B C E F G I J v M N O P Q T U)) p) (fun p k => @HB.rec (fun _ => R) (fun A B C E F G I J L M N O P Q T U => k M fun v q => q (.mk A B C E F G I J L v N O P Q T U)) p) (fun p k => @HB.rec (fun _ => R) (fun A B C E F G I J L M N O P Q T U => k N fun v q => q (.mk A B C E F G I J L M v O P Q T U)) p) (fun p k => @HB.rec (fun _ => R) (fun A B C E F G I J L M N O P Q T U => k O fun v q => q (.mk A B C E F G I J L M N v P Q T U)) p) (fun p k => @HB.rec (fun _ => R) (fun A B C E F G I J L M N O P Q T U => k P fun v q => q (.mk A B C E F G I J L M N O v Q T U)) p) (fun p k => @HB.rec (fun _ => R) (fun A B C E F G I J L M N O P Q T U => k Q fun v q => q (.mk A B C E F G I J L M N O P v T U)) p) (fun p k => @HB.rec (fun _ => R) (fun A B C E F G I J L M N O P Q T U => k T fun v q => q (.mk A B C E F G I J L M N O P Q v U)) p) (fun p k => @HB.rec (fun _ => R) (fun A B C E F G I J L M N O P Q T U => k U fun v q => q (.mk A B C E F G I J L M N O P Q T v)) p) d
theorem HB.opR_eq (d:D) (p:HB) (k:HA->(HA->(HB->R)->R)->R):HB.opR d p k=k (HB.sel d p) fun v q => q (HB.setS d p v) := by
  cases d <;> cases p <;> rfl
def HC.selR (d:D):HC->(HB->R)->R :=
  @D.rec (fun _ => HC->(HB->R)->R) (fun p k => @HC.rec (fun _ => R) (fun A B C E F G I J L M N O P Q T U => k A) p) (fun p k => @HC.rec (fun _ => R) (fun A B C E F G I J L M N O P Q T U => k B) p) (fun p k => @HC.rec (fun _ => R) (fun A B C E F G I J L M N O P Q T U => k C) p) (fun p k => @HC.rec (fun _ => R) (fun A B C E F G I J L M N O P Q T U => k E) p) (fun p k => @HC.rec (fun _ => R) (fun A B C E F G I J L M N O P Q T U => k F) p) (fun p k => @HC.rec (fun _ => R) (fun A B C E F G I J L M N O P Q T U => k G) p) (fun p k => @HC.rec (fun _ => R) (fun A B C E F G I J L M N O P Q T U => k I) p) (fun p k => @HC.rec (fun _ => R) (fun A B C E F G I J L M N O P Q T U => k J) p) (fun p k => @HC.rec (fun _ => R) (fun A B C E F G I J L M N O P Q T U => k L) p) (fun p k => @HC.rec (fun _ => R) (fun A B C E F G I J L M N O P Q T U => k M) p) (fun p k => @HC.rec (fun _ => R) (fun A B C E F G I J L M N O P Q T U => k N) p) (fun p k => @HC.rec (fun _ => R) (fun A B C E F G I J L M N O P Q T U => k O) p) (fun p k => @HC.rec (fun _ => R) (fun A B C E F G I J L M N O P Q T U => k P) p) (fun p k => @HC.rec (fun _ => R) (fun A B C E F G I J L M N O P Q T U => k Q) p) (fun p k => @HC.rec (fun _ => R) (fun A B C E F G I J L M N O P Q T U => k T) p) (fun p k => @HC.rec (fun _ => R) (fun A B C E F G I J L M N O P Q T U => k U) p) d
theorem HC.selR_eq (d:D) (p:HC) (k:HB->R):HC.selR d p k=k (HC.sel d p) := by
  cases d <;> cases p <;> rfl
def HC.opR (d:D):HC->(HB->(HB->(HC->R)->R)->R)->R :=
  @D.rec (fun _ => HC->(HB->(HB->(HC->R)->R)->R)->R) (fun p k => @HC.rec (fun _ => R) (fun A B C E F G I J L M N O P Q T U => k A fun v q => q (.mk v B C E F G I J L M N O P Q T U)) p) (fun p k => @HC.rec (fun _ => R) (fun A B C E F G I J L M N O P Q T U => k B fun v q => q (.mk A v C E F G I J L M N O P Q T U)) p) (fun p k => @HC.rec (fun _ => R) (fun A B C E F G I J L M N O P Q T U => k C fun v q => q (.mk A B v E F G I J L M N O P Q T U)) p) (fun p k => @HC.rec (fun _ => R) (fun A B C E F G I J L M N O P Q T U => k E fun v q => q (.mk A B C v F G I J L M N O P Q T U)) p) (fun p k => @HC.rec (fun _ => R) (fun A B C E F G I J L M N O P Q T U => k F fun v q => q (.mk A B C E v G I J L M N O P Q T U)) p) (fun p k => @HC.rec (fun _ => R) (fun A B C E F G I J L M N O P Q T U => k G fun v q => q (.mk A B C E F v I J L M N O P Q T U)) p) (fun p k => @HC.rec (fun _ => R) (fun A B C E F G I J L M N O P Q T U => k I fun v q => q (.mk A B C E F G v J L M N O P Q T U)) p) (fun p k => @HC.rec (fun _ => R) (fun A B C E F G I J L M N O P Q T U => k J fun v q => q (.mk A B C E F G I v L M N O P Q T U)) p) (fun p k => @HC.rec (fun _ => R) (fun A B C E F G I J L M N O P Q T U => k L fun v q => q (.mk A B C E F G I J v M N O P Q T U)) p) (fun p k => @HC.rec (fun _ => R) (fun A B C E F G I J L M N O P Q T U => k M fun v q => q (.mk A B C E F G I J L v N O P Q T U)) p) (fun p k => @HC.rec (fun _ => R) (fun A B C E F G I J L M N O P Q T U => k N fun v q => q (.mk A B C E F G I J L M v O P Q T U)) p) (fun p k => @HC.rec (fun _ => R) (fun A B C E F G I J L M N O P Q T U => k O fun v q => q (.mk A B C E F G I J L M N v P Q T U)) p) (fun p k => @HC.rec (fun _ => R) (fun A B C E F G I J L M N O P Q T U => k P fun v q => q (.mk A B C E F G I J L M N O v Q T U)) p) (fun p k => @HC.rec (fun _ => R) (fun A B C E F G I J L M N O P Q T U => k Q fun v q => q (.mk A B C E F G I J L M N O P v T U)) p) (fun p k => @HC.rec (fun _ => R) (fun A B C E F G I J L M N O P Q T U => k T fun v q => q (.mk A B C E F G I J L M N O P Q v U)) p) (fun p k => @HC.rec (fun _ => R) (fun A B C E F G I J L M N O P Q T U => k U fun v q => q (.mk A B C E F G I J L M N O P Q T v)) p) d
theorem HC.opR_eq (d:D) (p:HC) (k:HB->(HB->(HC->R)->R)->R):HC.opR d p k=k (HC.sel d p) fun v q => q (HC.setS d p v) := by
  cases d <;> cases p <;> rfl
def Heap.selR (d:D):Heap->(HC->R)->R :=
  @D.rec (fun _ => Heap->(HC->R)->R) (fun p k => @Heap.rec (fun _ => R) (fun A B C E F G I J L M N O P Q T U => k A) p) (fun p k => @Heap.rec (fun _ => R) (fun A B C E F G I J L M N O P Q T U => k B) p) (fun p k => @Heap.rec (fun _ => R) (fun A B C E F G I J L M N O P Q T U => k C) p) (fun p k => @Heap.rec (fun _ => R) (fun A B C E F G I J L M N O P Q T U => k E) p) (fun p k => @Heap.rec (fun _ => R) (fun A B C E F G I J L M N O P Q T U => k F) p) (fun p k => @Heap.rec (fun _ => R) (fun A B C E F G I J L M N O P Q T U => k G) p) (fun p k => @Heap.rec (fun _ => R) (fun A B C E F G I J L M N O P Q T U => k I) p) (fun p k => @Heap.rec (fun _ => R) (fun A B C E F G I J L M N O P Q T U => k J) p) (fun p k => @Heap.rec (fun _ => R) (fun A B C E F G I J L M N O P Q T U => k L) p) (fun p k => @Heap.rec (fun _ => R) (fun A B C E F G I J L M N O P Q T U => k M) p) (fun p k => @Heap.rec (fun _ => R) (fun A B C E F G I J L M N O P Q T U => k N) p) (fun p k => @Heap.rec (fun _ => R) (fun A B C E F G I J L M N O P Q T U => k O) p) (fun p k => @Heap.rec (fun _ => R) (fun A B C E F G I J L M N O P Q T U => k P) p) (fun p k => @Heap.rec (fun _ => R) (fun A B C E F G I J L M N O P Q T U => k Q) p) (fun p k => @Heap.rec (fun _ => R) (fun A B C E F G I J L M N O P Q T U => k T) p) (fun p k => @Heap.rec (fun _ => R) (fun A B C E F G I J L M N O P Q T U => k U) p) d
theorem Heap.selR_eq (d:D) (p:Heap) (k:HC->R):Heap.selR d p k=k (Heap.sel d p) := by
  cases d <;> cases p <;> rfl
def Heap.opR (d:D):Heap->(HC->(HC->(Heap->R)->R)->R)->R :=
  @D.rec (fun _ => Heap->(HC->(HC->(Heap->R)->R)->R)->R) (fun p k => @Heap.rec (fun _ => R) (fun A B C E F G I J L M N O P Q T U => k A fun v q => q (.mk v B C E F G I J L M N O P Q T U)) p) (fun p k => @Heap.rec (fun _ => R) (fun A B C E F G I J L M N O P Q T U => k B fun v q => q (.mk A v C E F G I J L M N O P Q T U)) p) (fun p k => @Heap.rec (fun _ => R) (fun A B C E F G I J L M N O P Q T U => k C fun v q => q (.mk A B v E F G I J L M N O P Q T U)) p) (fun p k => @Heap.rec (fun _ => R) (fun A B C E F G I J L M N O P Q T U => k E fun v q => q (.mk A B C v F G I J L M N O P Q T U)) p) (fun p k => @Heap.rec (fun _ => R) (fun A B C E F G I J L M N O P Q T U => k F fun v q => q (.mk A B C E v G I J L M N O P Q T U)) p) (fun p k => @Heap.rec (fun _ => R) (fun A B C E F G I J L M N O P Q T U => k G fun v q => q (.mk A B C E F v I J L M N O P Q T U)) p) (fun p k => @Heap.rec (fun _ => R) (fun A B C E F G I J L M N O P Q T U => k I fun v q => q (.mk A B C E F G v J L M N O P Q T U)) p) (fun p k => @Heap.rec (fun _ => R) (fun A B C E F G I J L M N O P Q T U => k J fun v q => q (.mk A B C E F G I v L M N O P Q T U)) p) (fun p k => @Heap.rec (fun _ => R) (fun A B C E F G I J L M N O P Q T U => k L fun v q => q (.mk A B C E F G I J v M N O P Q T U)) p) (fun p k => @Heap.rec (fun _ => R) (fun A B C E F G I J L M N O P Q T U => k M fun v q => q (.mk A B C E F G I J L v N O P Q T U)) p) (fun p k => @Heap.rec (fun _ => R) (fun A B C E F G I J L M N O P Q T U => k N fun v q => q (.mk A B C E F G I J L M v O P Q T U)) p) (fun p k => @Heap.rec (fun _ => R) (fun A B C E F G I J L M N O P Q T U => k O fun v q => q (.mk A B C E F G I J L M N v P Q T U)) p) (fun p k => @Heap.rec (fun _ => R) (fun A B C E F G I J L M N O P Q T U => k P fun v q => q (.mk A B C E F G I J L M N O v Q T U)) p) (fun p k => @Heap.rec (fun _ => R) (fun A B C E F G I J L M N O P Q T U => k Q fun v q => q (.mk A B C E F G I J L M N O P v T U)) p) (fun p k => @Heap.rec (fun _ => R) (fun A B C E F G I J L M N O P Q T U => k T fun v q => q (.mk A B C E F G I J L M N O P Q v U)) p) (fun p k => @Heap.rec (fun _ => R) (fun A B C E F G I J L M N O P Q T U => k U fun v q => q (.mk A B C E F G I J L M N O P Q T v)) p) d
theorem Heap.opR_eq (d:D) (p:Heap) (k:HC->(HC->(Heap->R)->R)->R):Heap.opR d p k=k (Heap.sel d p) fun v q => q (Heap.setS d p v) := by
  cases d <;> cases p <;> rfl
def Bt (p:K4) (h:Heap) (κ:Cx->R):R :=
  @K4.rec (fun _ => R) (fun a b c d => Heap.selR a h fun x => HC.selR b x fun y => HB.selR c y fun z => HA.selR d z κ) p
theorem Bm (p:K4) (h:Heap) (κ:Cx->R):Bt p h κ=κ (A8 p h) := by
  cases p; simp only [Bt, Heap.selR_eq, HC.selR_eq, HB.selR_eq, HA.selR_eq, A8]
/-- What stands at a place, and how another thing is put there. -/
def TJ (p:K4) (h:Heap) (κ:Cx->(Cx->(Heap->R)->R)->R):R :=
  @K4.rec (fun _ => R) (fun a b c d => Heap.opR a h fun x px => HC.opR b x fun y py => HB.opR c y fun z pz => HA.opR d z fun o po => κ o fun o k => po o fun z => pz z fun y => py y fun x => px x k) p
theorem Nw (p:K4) (h:Heap) (κ:Cx->(Cx->(Heap->R)->R)->R):TJ p h κ=κ (A8 p h) fun o k => k (Af p h o) := by
  cases p
  simp only [TJ, Heap.opR_eq, HC.opR_eq, HB.opR_eq, HA.opR_eq, A8, Af, FY, Heap.setK_eq, HC.setK_eq, HB.setK_eq, HA.setK_eq, Heap.selK_eq, HC.selK_eq, HB.selK_eq]
  rfl
def BW (p:K4) (h:Heap) (o:Cx) (κ:Heap->R):R := TJ p h fun _ put => put o κ
theorem BZ (p:K4) (h:Heap) (o:Cx) (κ:Heap->R):BW p h o κ=FY p h o κ := by
  rw [BW, Nw, B6]
def Nm (p:K4) (h:Heap) (κ:Cs->Bool->Option K4->R):R :=
  Bt p h fun o => @Option.rec Ob (fun _ => R) (.fail "") (fun o => @Ob.rec (fun _ => R) κ (Cb "") (Fp "") (.fail "") (AG "") o) o
theorem EF:Nm=Ht := by
  funext p h κ
  rw [Nm, Bm, Ht, CZ]
def RZ (p:K4) (h:Heap) (κ:List (V×V)->List Nat->Nat->R):R :=
  Bt p h fun o => @Option.rec Ob (fun _ => R) (.fail "") (fun o => @Ob.rec (fun _ => R) (Cb "") κ (Fp "") (.fail "") (AG "") o) o
theorem GB:RZ=Oi := by
  funext p h κ
  rw [RZ, Bm, Oi, CZ]
def ET (h:Heap) (n:K4) (o:Ob) (κ:Heap->K4->R):R := BW n h (some o) fun h' => n.nx fun n' => κ h' n'
theorem IF:ET=Di := by
  funext h n o κ
  rw [ET, BZ, Di]
def Ni (h:Heap) (p:K4) (f:Cs->(Cs->R)->R) (κ:Heap->R):R :=
  TJ p h fun o put => @Option.rec Ob (fun _ => R) (.fail "") (fun o => @Ob.rec (fun _ => R) (fun cs sup prev => br sup (.fail "") (f cs fun cs' =>
    @Option.rec K4 (fun _ => R) (put (some (.c cs' false none)) κ) (fun q => BW q h none fun h => BW p h (some (.c cs' false none)) κ) prev)) (Cb "") (Fp "") (.fail "") (AG "") o) o
theorem J5 (h:Heap) (p:K4) (f:Cs->(Cs->R)->R) (κ:Heap->R):Ni h p f κ=Ht p h fun cs sup prev => br sup (.fail "") (f cs fun cs' => Jm prev h fun h => FY p h (some (.c cs' false none)) κ) := by
  rw [Ni, Nw, Ht, CZ]
  cases A8 p h with
  | none => rfl
  | some o => cases o with
    | m es bs c => rfl
    | it _ _ _ _ => rfl
    | it0 => rfl
    | lp _ _ => rfl
    | c cs sup prev =>
      show br sup _ (f cs fun cs' => _)=br sup _ (f cs fun cs' => _)
      congr 2; funext cs'
      cases prev with
      | none => exact (B6 _ _ _ _).symm
      | some q => exact (BZ _ _ _ _).trans (congrArg _ (funext fun h => BZ _ _ _ _))
def FT (h:Heap) (p:K4) (off:Nat) (y:Cs) (κ:Heap->R):R := Ni h p (fun cs k => JB cs off y k) κ
theorem Gf:FT=DV := by
  funext h p off y κ
  exact J5 _ _ _ _
/-- One cell put among others. -/
def VM (cs:Cs) (off:Nat) (v:V) (κ:Cs->R):R :=
  @Cs.rec (fun _ => R) (fun xs => C8 off xs v fun zs => κ (.l zs)) (fun n c => Jj v (fun r => K7 n c off 1 r κ) (.fail "")) cs
theorem TP (cs:Cs) (off:Nat) (v:V) (κ:Cs->R):VM cs off v κ=JB cs off (.l [v]) κ := by
  cases cs with
  | l xs => exact JZ off xs v _
  | b n c =>
    show Jj v (fun r => K7 n c off 1 r κ) _=Jj v (fun r => Ab (Nat.succ 0) fun n' => Ab (Nat.add r (Nat.mul 256 0)) fun d => K7 n c off n' d κ) _
    congr 1; funext r
    rw [A9, A9]; rfl
def Dn (esz eb:Nat) (x:V) (m:Nat) (y:Cs) (h:Heap) (n:K4) (κ:KV):R :=
  DM x
    (br (Nat.beq m 0) (κ (.nil .sl) h n) (br (Nat.ble (Nat.mul (Nat.add (Nat.mul 4 m) 4096) eb) 281474976710656) (ET h n (.c y false none) fun h' n' => κ (.sl n 0 m m false esz) h' n') (.fail "")))
    (fun p off len cap ex esz' => br (Nat.beq esz' esz) (br (Nat.beq m 0) (κ x h n) (Ab (Nat.add len m) fun need =>
      br (Nat.ble need cap)
        (Ab (Nat.add off (Nat.mul len esz)) fun j => FT h p j y fun h' => κ (.sl p off need cap ex esz) h' n)
        (br (Nat.ble (Nat.mul (Nat.add (Nat.mul 4 need) 4096) eb) 281474976710656)
          (Nm p h fun cs sup prev => Ab (Nat.mul len esz) fun l => Bh cs off l fun a => Sy a y fun z =>
            br ex
              (ET h n (.c z false none) fun h' n' => κ (.sl n 0 need need false esz) h' n')
              (br sup (.fail "")
                (Ab (Nat.add off l) fun j => Bh cs 0 j fun old => Jm prev h fun h => FY p h (some (.c old true none)) fun h =>
                  ET h n (.c z false (some p)) fun h' n' => κ (.sl n 0 need need false esz) h' n')))
          (.fail "")))) (.fail ""))
theorem PI:Dn=Ep := by
  funext esz eb x m y h n κ
  rw [Dn, IF, Gf, EF]; rfl
def GN (v:V) (h:Heap) (n:K4) (κ:KV):R :=
  Eb v fun l => ET h n (.c (.l l) false none) fun h' n' => κ (.ptr n 0) h' n'
def Dc (cs:Cs) (h:Heap) (n:K4) (κ:KV):R :=
  ET h n (.c cs false none) fun h' n' => κ (.ptr n 0) h' n'
def CN (u8:Bool) (len esz:Nat) (l:List V) (h:Heap) (n:K4) (κ:KV):R :=
  br u8 (Ct l (fun m c => ET h n (.c (.b m c) false none) fun h' n' => κ (.sl n 0 len len true esz) h' n') (.fail "")) (ET h n (.c (.l l) false none) fun h' n' => κ (.sl n 0 len len true esz) h' n')
def Az (v:V) (h:Heap) (κ:V->R):R :=
  @V.rec (fun _ => R) (fun _ => Unit) (AG "") (AV "") (fun p off => Nm p h fun cs _ _ => Ge cs off κ) (DN "") (AG "") (AG "") (AV "") (AV "") (Cb "") (AG "") (fun o => RJ o (fun i j m => br (Nat.ble 1 m) (VK i j κ) (.fail "")) (KR o (fun l => T9 l κ) (.fail ""))) () (fun _ _ _ _ => ()) v
def FM (m:Nat) (v:V) (h:Heap) (κ:V->R):R :=
  L5 v (fun p off => Nm p h fun cs _ _ => Bh cs off m fun y => E4 y fun l => κ (.agg l)) (fun o => KR o (fun l => br (Nat.ble m l.length) (κ (.agg ((l.take m).map RV.v))) (.fail "")) (.fail ""))
def Bn (m:Nat) (u v:V) (h:Heap) (κ:Heap->R):R :=
  JP u fun p off => Eb v fun l => Gk l fun k => br (Nat.beq k m) (FT h p off (.l l) κ) (.fail "")
def I4 (h:Heap) (p:K4) (off:Nat) (v:V) (κ:Heap->R):R :=
  Ni h p (fun cs k => VM cs off v k) κ
def Bb (u v:V) (h:Heap) (κ:Heap->R):R :=
  @V.rec (fun _ => R) (fun _ => Unit) (AG "") (AV "") (fun p off => @V.rec (fun _ => R) (fun _ => Unit) (fun _ _ => I4 h p off v κ) (fun _ => I4 h p off v κ) (fun _ _ => I4 h p off v κ) (fun _ _ _ _ _ _ => I4 h p off v κ) (fun _ _ => I4 h p off v κ) (fun l _ => Gk l fun k => br (Nat.beq k 1) (FT h p off (.l l) κ) (.fail "")) (fun _ => I4 h p off v κ) (fun _ => I4 h p off v κ) (fun _ _ _ => I4 h p off v κ) (AG "") (fun o => @Ot.rec (fun _ => R) (.fail "") (fun _ => I4 h p off v κ) (AV "") (.fail "") (fun _ _ _ => I4 h p off v κ) (fun _ _ => I4 h p off v κ) (I4 h p off v κ) (fun _ _ => I4 h p off v κ) (fun _ _ _ _ => I4 h p off v κ) (fun _ _ _ _ => I4 h p off v κ) (fun _ _ _ => I4 h p off v κ) (fun _ _ => I4 h p off v κ) (fun _ _ => I4 h p off v κ) (fun _ _ _ => I4 h p off v κ) (fun _ => I4 h p off v κ) o) () (fun _ _ _ _ => ()) v) (DN "") (AG "") (AG "") (AV "") (AV "") (Cb "") (AG "") (AV "") () (fun _ _ _ _ => ()) u
theorem Pw (h:Heap) (p:K4) (off:Nat) (v:V) (κ:Heap->R):I4 h p off v κ=FT h p off (.l [v]) κ := by
  rw [Gf, I4, J5]
  simp only [TP]; rfl
theorem T6 (u v:V) (h:Heap) (κ:Heap->R):Bb u v h κ=Bn 1 u v h κ := by
  cases u with
  | ptr p off =>
    cases v with
    | agg l => rfl
    | tup l => rfl
    | oth o => cases o with
      | any => rfl
      | yl p => rfl
      | no => rfl
      | _ => exact Pw _ _ _ _ _
    | _ => exact Pw _ _ _ _ _
  | _ => rfl
abbrev We {β:Type} (c:Bool) (t f:β):β := @Bool.rec (fun _ => β) f t c
abbrev SR (m:Nat) (u v:V) (h:Heap) (κ:Heap->R):R := We (Nat.beq m 1) (Bb u v h κ) (Bn m u v h κ)
theorem Sg (m:Nat) (u v:V) (h:Heap) (κ:Heap->R):SR m u v h κ=Bn m u v h κ := by
  unfold SR
  cases hb:Nat.beq m 1 with
  | true => rw [Nat.eq_of_beq_eq_true hb]; exact T6 u v h κ
  | false => rfl
def RB (p:K4) (h:Heap) (f:List (V×V)->List Nat->Nat->(List (V×V)->List Nat->Nat->R)->R) (κ:Heap->R):R :=
  TJ p h fun o put => @Option.rec Ob (fun _ => R) (.fail "") (fun o => @Ob.rec (fun _ => R) (Cb "") (fun es bs c => f es bs c fun es bs c => put (some (.m es bs c)) κ) (Fp "") (.fail "") (AG "") o) o
theorem Nr (p:K4) (h:Heap) (f:List (V×V)->List Nat->Nat->(List (V×V)->List Nat->Nat->R)->R) (κ:Heap->R):RB p h f κ=Oi p h fun es bs c => f es bs c fun es bs c => FY p h (some (.m es bs c)) κ := by
  rw [RB, Nw, Oi, CZ]
  simp only [B6]
def Ah (v:V) (κ:V->R):R :=
  @V.rec (fun _ => R) (fun _ => Unit) (AG "") (AV "") (fun p off => κ v) (DN "") (AG "") (AG "") (AV "") (AV "") (fun f caps _i => κ v) (AG "") (fun o => KR o (fun _ => κ v) (.fail "")) () (fun _ _ _ _ => ()) v
def N3 (neg:Bool) (pl:Plan) (u v:V) (κ:V->R):R :=
  L3 pl u v fun r => br neg (br r (κ (.bool false)) (κ (.bool true))) (κ (.bool r))
def C6 (v:V) (κ:V->R):R :=
  @V.rec (fun _ => R) (fun _ => Unit) (AG "") (fun q => @Bool.rec (fun _ => R) (κ (.bool true)) (κ (.bool false)) q) (AG "") (DN "") (AG "") (AG "") (AV "") (AV "") (Cb "") (AG "") (AV "") () (fun _ _ _ _ => ()) v
def XY (v:V) (κ:V->R):R :=
  GS v fun k r => N2 k 0 k r κ
def YH (v:V) (κ:V->R):R :=
  GS v fun k r => Ab (Nat.xor (Nat.sub (Mk k) 1) r) fun r => κ (.int k r)
def Fg (k:IntKind) (v:V) (κ:V->R):R :=
  GS v fun j r => br (Nat.ble (Nat.succ r) (Hk j)) (Ab (Nat.mod r (Mk k)) fun r => κ (.int k r)) (br (Nat.ble (Mk k) (Mk j)) (Ab (Nat.mod r (Mk k)) fun r => κ (.int k r)) (Ab (Nat.sub (Mk k) (Nat.sub (Mk j) r)) fun r => κ (.int k r)))
def C4 (v:V) (h:Heap) (κ:V->R):R :=
  E3 v (κ (.str 0 0)) (fun p off len cap ex esz => br (Nat.beq esz 1) (Nm p h fun cs _ _ => Bh cs off len fun y => @Cs.rec (fun _ => R) (fun l => Ct l (fun m c => κ (.str m c)) (.fail "")) (fun m c => κ (.str m c)) y) (.fail "")) (fun o => HG o (fun m c => κ (.str m c)) (.fail ""))
def GW (v:V) (h:Heap) (n:K4) (κ:KV):R :=
  Be v fun m c => ET h n (.c (.b m c) false none) fun h' n' => κ (.sl n 0 m m false 1) h' n'
def XH (v:V) (κ:V->R):R :=
  Be v fun _ _ => κ v
def Ns (v:V) (h:Heap) (κ:V->R):R :=
  DM v (.fail "") (fun p _ _ _ _ _ => Nm p h fun _ _ _ => κ v)
def Nd (h:Heap) (n:K4) (κ:KV):R :=
  ET h n (.m [] [] 0) fun h' n' => κ (.map n) h' n'
def FU (eb:Nat) (u8:Bool) (zero:List V) (u v:V) (h:Heap) (n:K4) (κ:KV):R :=
  IW u fun a => IW v fun b => br (Nat.ble a b) (br (Nat.ble (Nat.mul eb b) 281474976710656) (Ff u8 zero b fun y => ET h n (.c y false none) fun h' n' => Gk zero fun esz => κ (.sl n 0 a b true esz) h' n') (.fail "")) (.fail "")
def DQ (o:Option V) (d:Nat) (κ:Nat->R):R :=
  @Option.rec V (fun _ => R) (κ d) (fun v => IW v κ) o
def CB (v:V) (lo hi:Option V) (κ:V->R):R :=
  V7 v (fun l0 l1 _ _ => br (br (Em hi) true (Nat.beq l0 l1)) (DQ hi l0 fun b => DQ lo 0 fun a => br (Nat.ble a b) (br (Nat.ble b l0) (Ab (Nat.sub b a) fun l => κ (.oth (.ss l l (Nat.succ l) 0))) (.fail "")) (.fail "")) (.fail "")) <| Be v fun m c => DQ hi m fun b => DQ lo 0 fun a => br (Nat.ble a b) (br (Nat.ble b m) (Ab (Nat.sub b a) fun l => Ab (Ev.lo (sh c a) l) fun r => κ (.str l r)) (.fail "")) (.fail "")
def Zd (esz:Nat) (v:V) (mx hi:Option V) (κ:V->R):R :=
  DM v (.fail "") (fun p off len cap ex esz' => DQ hi len fun b => DQ mx cap fun c => br (Nat.beq esz' esz) (br (Nat.ble b c) (br (Nat.ble c cap) (κ (.sl p off b c true esz)) (.fail "")) (.fail "")) (.fail ""))
def Cw (esz:Nat) (v:V) (lo hi:Option V) (κ:V->R):R :=
  br (Nat.ble 4294967296 esz) (Zd (Nat.sub esz 4294967296) v lo hi κ) <|
  XT v (fun l0 l1 => br (br (Em hi) true (Nat.beq l0 l1)) (DQ hi l0 fun b => DQ lo 0 fun a => br (Nat.ble a b) (br (Nat.ble b l0) (Ab (Nat.sub b a) fun l => κ (.oth (.os l l))) (.fail "")) (.fail "")) (.fail "")) <| E3 v (DQ hi 0 fun b => DQ lo 0 fun a => br (Nat.beq b 0) (br (Nat.beq a 0) (κ (.nil .sl)) (.fail "")) (.fail "")) (fun p off len cap ex esz' => DQ hi len fun b => DQ lo 0 fun a => br (Nat.beq esz' esz) (br (Nat.ble a b) (br (Nat.ble b cap) (Ab (Nat.sub b a) fun l => Ab (Nat.sub cap a) fun c => Ab (Nat.add off (Nat.mul a esz)) fun o => κ (.sl p o l c ex esz)) (.fail "")) (.fail "")) (.fail "")) (fun o => JC o (fun l m z => DQ hi m fun b => DQ lo 0 fun a => br (Nat.beq z esz) (br (Nat.ble a b) (br (Nat.ble b m) (Ab (Nat.sub b a) fun k => Ab (Nat.mul a esz) fun j => Ab (Nat.mul k esz) fun q => κ (.oth (.rx ((l.drop j).take q) k esz))) (.fail "")) (.fail "")) (.fail "")) (HG o (fun m c => DQ hi m fun b => DQ lo 0 fun a => br (Nat.beq esz 1) (br (Nat.ble a b) (br (Nat.ble b m) (Ab (Nat.sub b a) fun k => Ab (Ev.lo (sh c a) k) fun r => κ (.oth (.rb k r))) (.fail "")) (.fail "")) (.fail "")) (.fail "")))
def Ss (m esz:Nat) (v:V) (lo hi:Option V) (h:Heap) (κ:V->R):R :=
  JP v fun p off => Nm p h fun cs _ _ => Xh cs fun z => br (Nat.ble (Nat.add off (Nat.mul m esz)) z) (DQ hi m fun b => DQ lo 0 fun a => br (Nat.ble a b) (br (Nat.ble b m) (Ab (Nat.sub b a) fun l => Ab (Nat.sub m a) fun c => Ab (Nat.add off (Nat.mul a esz)) fun o => κ (.sl p o l c true esz)) (.fail "")) (.fail "")) (.fail "")
def Al (off:Nat) (v:V) (κ:V->R):R :=
  @V.rec (fun _ => R) (fun _ => Unit) (AG "") (AV "") (fun p o => Ab (Nat.add o off) fun o => κ (.ptr p o)) (DN "") (AG "") (AG "") (AV "") (AV "") (Cb "") (AG "") (fun o => RJ o (fun i j m => br (Nat.ble (Nat.succ off) m) (Ab (Nat.add j off) fun j => Ab (Nat.sub m off) fun m => κ (.oth (.ap i j m))) (.fail "")) (KR o (fun l => br (Nat.ble (Nat.succ off) l.length) (κ (.oth (.rp (l.drop off)))) (.fail "")) (.fail ""))) () (fun _ _ _ _ => ()) v
def YB (off size:Nat) (ag:Bool) (v:V) (κ:V->R):R :=
  asAgg v fun l => br ag (Du off l fun r => D6 size r fun r => κ (.agg r)) (DL off l κ)
def Bl (esz:Nat) (v u:V) (κ:V->R):R :=
  IW u fun a => E3 v (.fail "") (fun p off len cap ex esz' => br (Nat.beq esz' esz) (br (Nat.ble (Nat.succ a) len) (Ab (Nat.add off (Nat.mul a esz)) fun o => κ (.ptr p o)) (.fail "")) (.fail "")) (fun o => PT o (fun i lo hi z => br (Nat.beq z esz) (br (Nat.ble (Nat.succ a) lo) (Ab (Nat.mul a esz) fun j => κ (.oth (.ap i j esz))) (.fail "")) (.fail "")) (JC o (fun l m z => br (Nat.beq z esz) (br (Nat.ble (Nat.succ a) m) (Ab (Nat.mul a esz) fun j => κ (.oth (.rp (l.drop j)))) (.fail "")) (.fail "")) (HG o (fun m c => br (Nat.beq esz 1) (br (Nat.ble (Nat.succ a) m) (Ab (Ev.lo (sh c a) 1) fun r => κ (.oth (.rp [.i .u8 r]))) (.fail "")) (.fail "")) (.fail ""))))
def Yc (m esz:Nat) (v u:V) (κ:V->R):R :=
  IW u fun a => JP v fun p off => br (Nat.ble (Nat.succ a) m) (Ab (Nat.add off (Nat.mul a esz)) fun o => κ (.ptr p o)) (.fail "")
def AZ (v u:V) (κ:V->R):R :=
  IW u fun a => Be v fun m c => br (Nat.ble (Nat.succ a) m) (Ab (Ev.lo (sh c a) 1) fun r => κ (.int .u8 r)) (.fail "")
def Y9 (m esz:Nat) (ag:Bool) (v u:V) (κ:V->R):R :=
  IW u fun a => asAgg v fun l => br (Nat.ble (Nat.succ a) m) (Ab (Nat.mul a esz) fun j => br ag (Du j l fun r => D6 esz r fun r => κ (.agg r)) (DL j l κ)) (.fail "")
def WF (pl:Plan) (zero:V) (ok:Bool) (u v:V) (h:Heap) (κ:V->R):R :=
  K0 pl v <| E2 u (br ok (κ (.tup [zero, .bool false])) (κ zero)) (fun p => RZ p h fun es _ _ => EK pl v es (fun r => br ok (κ (.tup [r, .bool true])) (κ r)) (br ok (κ (.tup [zero, .bool false])) (κ zero)))
def Xf (pl:Plan) (u a b:V) (h:Heap) (κ:Heap->R):R :=
  K0 pl a <| E2 u (.fail "") (fun p => RB p h (fun es bs c k => HL pl a b es fun es => Vy es bs c fun bs c => k es bs c) κ)
def Sd (pl:Plan) (u a:V) (h:Heap) (κ:Heap->R):R :=
  K0 pl a <| E2 u (κ h) (fun p => RB p h (fun es bs c k => HF pl a es fun es2 => HH pl a es bs fun bs => k es2 bs c) κ)
def AU (i:Nat) (v:V) (κ:V->R):R :=
  KE v fun l => DL i l κ
def Ai (r:R) (κ:KV):R :=
  @R.rec (fun _ => R) (Fp "") (fun v h n => κ v h n) (fun w => .fail w) (Fp "") r
def B0 (v:V) (κ:V->R):R :=
  V7 v (fun l0 l1 _ _ => br (Nat.ble (Nat.succ l1) 9223372036854775808) (κ (.oth (.iv .i64 l0 l1))) (.fail "")) <| Be v fun m _ => DX m κ
def B3 (v:V) (κ:V->R):R :=
  E3 v (κ (.int .i64 0)) (fun p off len cap ex esz => DX len κ) (fun o => Wt o (fun l0 l1 => br (Nat.ble (Nat.succ l1) 9223372036854775808) (κ (.oth (.iv .i64 l0 l1))) (.fail "")) (PT o (fun i l0 l1 z => br (Nat.ble (Nat.succ l1) 9223372036854775808) (br (Nat.beq l0 l1) (κ (.int .i64 l0)) (κ (.oth (.iv .i64 l0 l1)))) (.fail "")) (JC o (fun l m z => DX m κ) (HG o (fun m c => DX m κ) (.fail "")))))
def TC (v:V) (h:Heap) (κ:V->R):R :=
  E2 v (κ (.int .i64 0)) (fun p => RZ p h fun es _ _ => U6 es fun m => DX m κ)
def JA (u v:V) (κ:V->R):R := Xr u v κ
def Q9 (u v:V) (κ:V->R):R := Xt u v κ
def WY (u v w:V) (κ:V->R):R :=
  GS u fun k a => GS v fun j b => GS w fun i c => br (Bk k j) (br (Bk k i) (br (DK k a b) (br (DK k b c) (κ w) (κ v)) (br (DK k a c) (κ w) (κ u))) (.fail "")) (.fail "")
def Yv (v:V) (κ:V->R):R :=
  DM v (κ (.int .i64 0)) (fun p off len cap ex esz => br ex (DX cap κ) (.fail ""))
def VZ (u8:Bool) (zero:List V) (v:V) (h:Heap) (κ:Heap->R):R :=
  DM v (κ h) (fun p off len cap ex esz => Gk zero fun m => br (Nat.beq m esz) (br (Nat.beq len 0) (κ h) (Ff u8 zero len fun y => FT h p off y κ)) (.fail ""))
def HR (esz eb:Nat) (u v:V) (h:Heap) (n:K4) (κ:KV):R :=
  J4 esz v h fun m y => Dn esz eb u m y h n κ
def T0 (esz eb:Nat) (u8:Bool) (zero:List V) (u v:V) (h:Heap) (n:K4) (κ:KV):R :=
  IW v fun m => br (Nat.ble (Nat.mul eb m) 281474976710656) (Ff u8 zero m fun y => Dn esz eb u m y h n κ) (.fail "")
def Wh (esz:Nat) (u v:V) (h:Heap) (κ:V->Heap->R):R :=
  J4 esz v h fun m y => DM u (κ (.int .i64 0) h) (fun p off len cap ex esz' => br (Nat.beq esz' esz) (Ab (@Bool.rec (fun _ => Nat) len m (Nat.ble m len)) fun k => br (Nat.beq k 0) (κ (.int .i64 0) h) (Ab (Nat.mul k esz) fun j => Bh y 0 j fun y => FT h p off y fun h => DX k fun v => κ v h)) (.fail ""))
abbrev Ig := Opd->(V->R)->R
abbrev Gb (ε:Ig) (l:List Opd):(List V->R)->R :=
  @List.rec Opd (fun _ => (List V->R)->R) (fun κ => κ []) (fun o _ ih κ => ε o fun v => ih fun vs => κ (v::vs)) l
abbrev Gc (ε:Ig) (o:Option Opd) (κ:Option V->R):R := @Option.rec Opd (fun _ => R) (κ none) (fun x => ε x fun v => κ (some v)) o
abbrev KH (ε:Ig) (l:List Part):List V->(List V->R)->R :=
  @List.rec Part (fun _ => List V->(List V->R)->R) (fun z κ => κ z) (fun p _ ih z κ => @Part.rec (fun _ => R) (fun off size x => ε x fun v => Ij off size v z fun z => ih z κ) p) l
/-- The number of a function, as digits. -/
structure K3 where
  a:D
  b:D
  c:D
def Bz (f:Nat):K3 := ⟨D.ofN (f / 256), D.ofN (f / 16 % 16), D.ofN (f % 16)⟩
abbrev DZ := K3->List V->Heap->K4->R
def Nh (cf:DZ) (v:V) (l:List V) (h:Heap) (n:K4) (κ:KV):R := Pm v fun f caps => EH l caps fun l => Ai (cf (Bz f) l h n) κ
theorem Ov (n:Nat):∀ (c:Nat) (κ:Nat->Nat->R) (e:R), ES n c (fun l => Ct l κ e)=κ n (c % 256 ^ n) := by
  induction n with
  | zero => intro c κ e; show κ 0 0=_; rw [Nat.pow_zero, Nat.mod_one]
  | succ n ih =>
    intro c κ e
    have e1:ES (n+1) c (fun l => Ct l κ e)=Ab (lo c 1) fun r => Ab (sh c 1) fun d => ES n d fun zs => Ct (.int .u8 r::zs) κ e := rfl
    rw [e1, A9, A9]
    have hr:lo c 1<256 := by rw [E0]; omega
    have e2:∀ zs, Ct (.int .u8 (lo c 1)::zs) κ e=Ct zs (fun n m => Ab (Nat.succ n) fun n => Ab (Nat.add (lo c 1) (Nat.mul 256 m)) fun c => κ n c) e := fun zs => by
      have:Ct (.int .u8 (lo c 1)::zs) κ e=br (Bk .u8 .u8) (br (Nat.ble (lo c 1) 255) (Ct zs (fun n m => Ab (Nat.succ n) fun n => Ab (Nat.add (lo c 1) (Nat.mul 256 m)) fun c => κ n c) e) e) e := rfl
      rw [this, Aa.2 (show lo c 1≤255 by omega)]; rfl
    simp only [e2]
    rw [ih, A9, A9]
    have e3:Nat.add (lo c 1) (Nat.mul 256 (sh c 1 % 256 ^ n))=c % 256 ^ (n+1) := by
      rw [E0, Fv, Nat.pow_one, Nat.pow_succ', Nat.mod_mul]; rfl
    rw [e3]
theorem Tc (v:V) (h:Heap) (κ:V->R):C4 v h κ=E3 v (κ (.str 0 0)) (fun p off len cap ex esz => br (Nat.beq esz 1) (Ht p h fun cs _ _ => Bh cs off len fun y => E4 y fun l => Ct l (fun m c => κ (.str m c)) (.fail "")) (.fail "")) (fun o => HG o (fun m c => κ (.str m c)) (.fail "")) := by
  unfold C4
  rw [EF]
  congr 1
  funext p off len cap ex esz
  congr 1; congr 1
  funext cs sup prev
  cases cs with
  | l xs => rfl
  | b n c =>
    show br (Nat.ble (Nat.add off len) n) (Ab (lo (sh c off) len) fun r => κ (.str len r)) (.fail "")=br (Nat.ble (Nat.add off len) n) (Ab (lo (sh c off) len) fun r => ES len r fun l => Ct l (fun m c => κ (.str m c)) (.fail "")) (.fail "")
    rw [A9, A9, Ov, E0, Nat.mod_mod]
/-- An operation whose operands are told by ε. -/
abbrev Gt (o:AK):DZ->Ig->Heap->K4->KV->R := @AK.rec (fun _ => DZ->Ig->Heap->K4->KV->R)
  (fun x cf ε h n κ => ε x fun v => κ v h n)
  (fun c a b cf ε h n κ => ε c fun q => ε a fun x => ε b fun y => AA q x y fun v => κ v h n)
  (fun cs cf ε h n κ => Dc cs h n κ)
  (fun x cf ε h n κ => ε x fun v => GN v h n κ)
  (fun zero parts cf ε h n κ => KH ε parts zero fun l => κ (.agg l) h n)
  (fun u8 len esz zero parts cf ε h n κ => KH ε parts zero fun l => CN u8 len esz l h n κ)
  (fun x cf ε h n κ => ε x fun v => Az v h fun v => κ v h n)
  (fun m x cf ε h n κ => ε x fun v => FM m v h fun v => κ v h n)
  (fun m a x cf ε h n κ => ε a fun u => ε x fun v => SR m u v h fun h => κ Ay h n)
  (fun x cf ε h n κ => ε x fun v => Ah v fun v => κ v h n)
  (fun op x y cf ε h n κ => ε x fun u => ε y fun v => Xk op u v fun v => κ v h n)
  (fun neg pl x y cf ε h n κ => ε x fun u => ε y fun v => N3 neg pl u v fun v => κ v h n)
  (fun x cf ε h n κ => ε x fun v => C6 v fun v => κ v h n)
  (fun x cf ε h n κ => ε x fun v => XY v fun v => κ v h n)
  (fun x cf ε h n κ => ε x fun v => YH v fun v => κ v h n)
  (fun k x cf ε h n κ => ε x fun v => Fg k v fun v => κ v h n)
  (fun x cf ε h n κ => ε x fun v => C4 v h fun v => κ v h n)
  (fun x cf ε h n κ => ε x fun v => GW v h n κ)
  (fun x cf ε h n κ => ε x fun v => XH v fun v => κ v h n)
  (fun x cf ε h n κ => ε x fun v => Ns v h fun v => κ v h n)
  (fun f caps cf ε h n κ => Gb ε caps fun l => κ (.fn f l) h n)
  (fun  cf ε h n κ => Nd h n κ)
  (fun eb u8 zero l c cf ε h n κ => ε l fun u => ε c fun v => FU eb u8 zero u v h n κ)
  (fun x lo hi cf ε h n κ => ε x fun v => Gc ε lo fun a => Gc ε hi fun b => CB v a b fun v => κ v h n)
  (fun esz x lo hi cf ε h n κ => ε x fun v => Gc ε lo fun a => Gc ε hi fun b => Cw esz v a b fun v => κ v h n)
  (fun m esz x lo hi cf ε h n κ => ε x fun v => Gc ε lo fun a => Gc ε hi fun b => Ss m esz v a b h fun v => κ v h n)
  (fun off x cf ε h n κ => ε x fun v => Al off v fun v => κ v h n)
  (fun off size ag x cf ε h n κ => ε x fun v => YB off size ag v fun v => κ v h n)
  (fun esz x i cf ε h n κ => ε x fun v => ε i fun u => Bl esz v u fun v => κ v h n)
  (fun m esz x i cf ε h n κ => ε x fun v => ε i fun u => Yc m esz v u fun v => κ v h n)
  (fun x i cf ε h n κ => ε x fun v => ε i fun u => AZ v u fun v => κ v h n)
  (fun m esz ag x i cf ε h n κ => ε x fun v => ε i fun u => Y9 m esz ag v u fun v => κ v h n)
  (fun pl zero ok m k cf ε h n κ => ε m fun u => ε k fun v => WF pl zero ok u v h fun v => κ v h n)
  (fun pl m k v cf ε h n κ => ε m fun u => ε k fun a => ε v fun b => Xf pl u a b h fun h => κ Ay h n)
  (fun pl m k cf ε h n κ => ε m fun u => ε k fun a => Sd pl u a h fun h => κ (.tup []) h n)
  (fun i x cf ε h n κ => ε x fun v => AU i v fun v => κ v h n)
  (fun f args cf ε h n κ => Gb ε args fun l => Ai (cf (Bz f) l h n) κ)
  (fun x args cf ε h n κ => ε x fun v => Gb ε args fun l => Nh cf v l h n κ)
  (fun x cf ε h n κ => ε x fun v => B0 v fun v => κ v h n)
  (fun x cf ε h n κ => ε x fun v => B3 v fun v => κ v h n)
  (fun x cf ε h n κ => ε x fun v => TC v h fun v => κ v h n)
  (fun x y cf ε h n κ => ε x fun u => ε y fun v => JA u v fun v => κ v h n)
  (fun x y cf ε h n κ => ε x fun u => ε y fun v => Q9 u v fun v => κ v h n)
  (fun esz eb x y cf ε h n κ => ε x fun u => ε y fun v => HR esz eb u v h n κ)
  (fun esz eb u8 zero x c cf ε h n κ => ε x fun u => ε c fun v => T0 esz eb u8 zero u v h n κ)
  (fun esz x y cf ε h n κ => ε x fun u => ε y fun v => Wh esz u v h fun v h => κ v h n)
  (fun x y z cf ε h n κ => ε x fun u => ε y fun v => ε z fun w => WY u v w fun v => κ v h n)
  (fun x cf ε h n κ => ε x fun v => Yv v fun v => κ v h n)
  (fun u8 zero x cf ε h n κ => ε x fun v => VZ u8 zero v h fun h => κ (.tup []) h n)
  (fun why cf ε h n κ => .fail "")
  o
section
variable {cf:CF} {cf2:DZ} {ε:Ig} {t:Regs} {h:Heap} {n:K4} {κ:KV}
theorem Gn {l:List Opd} {κ:List V->R} (hh:∀ x∈l, ∀ κ, ε x κ=κ (ev x t)):Gb ε l κ=κ (l.map (ev · t)) := by
  induction l generalizing κ with
  | nil => rfl
  | cons o l ih =>
    show ε o (fun v => Gb ε l fun vs => κ (v::vs))=_
    rw [hh o (List.mem_cons_self ..), ih fun x hx => hh x (List.mem_cons_of_mem _ hx)]; rfl
theorem Gg {o:Option Opd} {κ:Option V->R} (hh:∀ x∈o.toList, ∀ κ, ε x κ=κ (ev x t)):Gc ε o κ=κ (o.map (ev · t)) := by
  cases o with
  | none => rfl
  | some x => exact hh x (by simp) _
theorem OY {l:List Part}:∀ {z:List V} {κ:List V->R}, (∀ p∈l, ∀ κ, ε p.x κ=κ (ev p.x t))->KH ε l z κ=Dq l t z κ := by
  induction l with
  | nil => intro z κ _; rfl
  | cons p l ih =>
    intro z κ hh
    obtain ⟨off, size, x⟩ := p
    have e1:KH ε (⟨off, size, x⟩::l) z κ=ε x fun v => Ij off size v z fun z => KH ε l z κ := rfl
    have e2:Dq (⟨off, size, x⟩::l) t z κ=FQ off size (ev x t) z fun z => Dq l t z κ := AD x t _
    have e3:ε x (fun v => Ij off size v z fun z => KH ε l z κ)=_ := hh ⟨off, size, x⟩ (by simp) _
    rw [e1, e2, e3, PJ]
    congr 1; funext z
    exact ih fun p hp => hh p (by simp [hp])
theorem PR {o:Option Opd} {d:Nat} {κ:Nat->R}:BG o t d κ=DQ (o.map (ev · t)) d κ := by
  cases o with
  | none => rfl
  | some x => exact AD x t _
theorem Hu {k:AK} (hh:∀ x∈k.opds, ∀ κ, ε x κ=κ (ev x t)) (hcf:∀ f, cf2 (Bz f)=cf f):Gt k cf2 ε h n κ=HK k cf t h n κ := by
  cases k
  case build z ps => exact OY fun p hp => hh p.x (List.mem_map.2 ⟨p, hp, rfl⟩)
  case bslice u8 len esz z ps =>
    have e1:Gt (.bslice u8 len esz z ps) cf2 ε h n κ=KH ε ps z fun l => CN u8 len esz l h n κ := rfl
    rw [e1, OY fun p hp => hh p.x (List.mem_map.2 ⟨p, hp, rfl⟩)]
    simp only [CN, IF]; rfl
  case mkfn f l =>
    show Gb ε l (fun l => κ (.fn f l) h n)=OA l t fun l => κ (.fn f l) h n
    rw [Gn (l := l) (t := t) hh, FD]
  case call f l =>
    show Gb ε l (fun l => Ai (cf2 (Bz f) l h n) κ)=OA l t fun l => Ai (cf f l h n) κ
    rw [Gn (l := l) (t := t) hh, FD, hcf]
  case calld x l =>
    have h1:∀ κ, ε x κ=κ (ev x t) := hh x (by simp [AK.opds])
    have h2:∀ y∈l, ∀ κ, ε y κ=κ (ev y t) := fun y hy => hh y (by simp [AK.opds, hy])
    show ε x (fun v => Gb ε l fun l => Nh cf2 v l h n κ)=EQ x l cf t h n κ
    rw [h1, Gn h2]
    simp only [EQ, AD, FD, Nh, hcf]; rfl
  case slS x lo hi =>
    have h1:∀ κ, ε x κ=κ (ev x t) := hh x (by simp [AK.opds])
    have h2:∀ y∈lo.toList, ∀ κ, ε y κ=κ (ev y t) := fun y hy => hh y (by simp [AK.opds]; simp at hy; simp [hy])
    have h3:∀ y∈hi.toList, ∀ κ, ε y κ=κ (ev y t) := fun y hy => hh y (by simp [AK.opds]; simp at hy; simp [hy])
    show ε x (fun v => Gc ε lo fun a => Gc ε hi fun b => CB v a b fun v => κ v h n)=Iz x lo hi cf t h n κ
    rw [h1, Gg h2, Gg h3]
    simp only [Iz, AD, PR]
    cases hi <;> rfl
  case slL e x lo hi =>
    have h1:∀ κ, ε x κ=κ (ev x t) := hh x (by simp [AK.opds])
    have h2:∀ y∈lo.toList, ∀ κ, ε y κ=κ (ev y t) := fun y hy => hh y (by simp [AK.opds]; simp at hy; simp [hy])
    have h3:∀ y∈hi.toList, ∀ κ, ε y κ=κ (ev y t) := fun y hy => hh y (by simp [AK.opds]; simp at hy; simp [hy])
    show ε x (fun v => Gc ε lo fun a => Gc ε hi fun b => Cw e v a b fun v => κ v h n)=GO e x lo hi cf t h n κ
    rw [h1, Gg h2, Gg h3]
    simp only [GO, QC, AD, PR]
    cases hi <;> rfl
  case slA m e x lo hi =>
    have h1:∀ κ, ε x κ=κ (ev x t) := hh x (by simp [AK.opds])
    have h2:∀ y∈lo.toList, ∀ κ, ε y κ=κ (ev y t) := fun y hy => hh y (by simp [AK.opds]; simp at hy; simp [hy])
    have h3:∀ y∈hi.toList, ∀ κ, ε y κ=κ (ev y t) := fun y hy => hh y (by simp [AK.opds]; simp at hy; simp [hy])
    show ε x (fun v => Gc ε lo fun a => Gc ε hi fun b => Ss m e v a b h fun v => κ v h n)=Ip m e x lo hi cf t h n κ
    rw [h1, Gg h2, Gg h3]
    simp only [Ip, AD, PR, Ss, EF]
  case pick c a b =>
    have h1:∀ κ, ε c κ=κ (ev c t) := hh c (by simp [AK.opds])
    have h2:∀ κ, ε a κ=κ (ev a t) := hh a (by simp [AK.opds])
    have h3:∀ κ, ε b κ=κ (ev b t) := hh b (by simp [AK.opds])
    show ε c (fun q => ε a fun x => ε b fun y => AA q x y fun v => κ v h n)=I1 c a b cf t h n κ
    rw [h1, h2, h3, S9]
    simp only [I1, AD]
  case b2s x =>
    have h1:∀ κ, ε x κ=κ (ev x t) := hh x (by simp [AK.opds])
    show ε x (fun v => C4 v h fun v => κ v h n)=Ji x cf t h n κ
    rw [h1, Tc]
    simp only [Ji, AD]
  case bin op x y =>
    have h1:∀ κ, ε x κ=κ (ev x t) := hh x (by simp [AK.opds])
    have h2:∀ κ, ε y κ=κ (ev y t) := hh y (by simp [AK.opds])
    show ε x (fun u => ε y fun v => Xk op u v fun v => κ v h n)=KA op x y cf t h n κ
    rw [h1, h2, Qo]
    simp only [KA, AD]
  all_goals
    simp only [AK.opds, List.mem_cons, List.not_mem_nil, or_false, forall_eq_or_imp, forall_eq] at hh
    simp only [Gt, HK, Dc, GN, Az, FM, Sg, Bn, CN, Ns, GW, Nd, FU, WF, Xf, Sd, TC, HR, T0, Wh, Nr, IF, EF, GB, Gf, PI, Vn, OR, IG, RX, MS, Rh, D7, Rk, ME, MK, Ms, M9, Ji, If, MM, Mu, ID, Gy, MH, MI, Mb, LV, LQ, Lv, R1, RS, MQ, MT, MC, Lw, Mv, LG, My, LR, J7, Mg, Je, LC, LY, VZ, QM, AD, hh]
    try rfl
end
end Go.Ev

namespace Go.Ev
set_option linter.unusedVariables false
/-- The place of a register that is kept. -/
structure SL where
  a:O8
  b:O4
def S.get (s:SL) (t:S):V := SQ.sel s.b (S.sel s.a t)
def S.put (s:SL) (t:S) (v:V):S := S.setS s.a t (SQ.setS s.b (S.sel s.a t) v)
theorem S.get_put_same (s:SL) (t:S) (v:V):S.get s (S.put s t v)=v := by
  simp only [S.get, S.put, S.sel_setS_same, SQ.sel_setS_same]
theorem S.get_put_ne {s s':SL} (t:S) (v:V) (h:s≠s'):S.get s' (S.put s t v)=S.get s' t := by
  obtain ⟨a, b⟩ := s
  obtain ⟨a', b'⟩ := s'
  simp only [S.get, S.put]
  by_cases ha:a=a'
  · subst ha
    rw [S.sel_setS_same]
    by_cases hb:b=b'
    · subst hb; exact absurd rfl h
    · rw [SQ.sel_setS_ne _ _ hb]
  · rw [S.sel_setS_ne _ _ ha]
abbrev UU (b:O4) (κ:V->R) (x:SQ):R := @SQ.rec (fun _ => R) (fun d0 d1 d2 d3 => @O4.rec (fun _ => R) (κ d0) (κ d1) (κ d2) (κ d3) b) x
abbrev UL (p:SL) (t:S) (κ:V->R):R := @SL.rec (fun _ => R) (fun a b => @S.rec (fun _ => R) (fun c0 c1 c2 c3 c4 c5 c6 c7 => @O8.rec (fun _ => R) (UU b κ c0) (UU b κ c1) (UU b κ c2) (UU b κ c3) (UU b κ c4) (UU b κ c5) (UU b κ c6) (UU b κ c7) a) t) p
abbrev Uo (b:O4) (v:V) (x:SQ) (k:SQ->R):R := @SQ.rec (fun _ => R) (fun d0 d1 d2 d3 => @O4.rec (fun _ => R) (k (.mk v d1 d2 d3)) (k (.mk d0 v d2 d3)) (k (.mk d0 d1 v d3)) (k (.mk d0 d1 d2 v)) b) x
abbrev UV (p:SL) (t:S) (v:V) (k:S->R):R := @SL.rec (fun _ => R) (fun a b => @S.rec (fun _ => R) (fun c0 c1 c2 c3 c4 c5 c6 c7 => @O8.rec (fun _ => R) (Uo b v c0 fun x => k (.mk x c1 c2 c3 c4 c5 c6 c7)) (Uo b v c1 fun x => k (.mk c0 x c2 c3 c4 c5 c6 c7)) (Uo b v c2 fun x => k (.mk c0 c1 x c3 c4 c5 c6 c7)) (Uo b v c3 fun x => k (.mk c0 c1 c2 x c4 c5 c6 c7)) (Uo b v c4 fun x => k (.mk c0 c1 c2 c3 x c5 c6 c7)) (Uo b v c5 fun x => k (.mk c0 c1 c2 c3 c4 x c6 c7)) (Uo b v c6 fun x => k (.mk c0 c1 c2 c3 c4 c5 x c7)) (Uo b v c7 fun x => k (.mk c0 c1 c2 c3 c4 c5 c6 x)) a) t) p
theorem WR (b:O4) (κ:V->R) (x:SQ):UU b κ x=κ (SQ.sel b x) := by cases x; cases b <;> rfl
theorem UK (p:SL) (t:S) (κ:V->R):UL p t κ=κ (S.get p t) := by
  obtain ⟨a, b⟩ := p
  cases t
  cases a <;> exact WR _ _ _
theorem WH (b:O4) (v:V) (x:SQ) (k:SQ->R):Uo b v x k=k (SQ.setS b x v) := by cases x; cases b <;> rfl
theorem V2 (p:SL) (t:S) (v:V) (k:S->R):UV p t v k=k (S.put p t v) := by
  obtain ⟨a, b⟩ := p
  have e1:UV ⟨a, b⟩ t v k=Uo b v (S.sel a t) fun x => k (S.setS a t x) := by cases t; cases a <;> rfl
  rw [e1, WH]; rfl
/-- The registers that are kept, and where. -/
abbrev SM := List (K2×SL)
abbrev I0 (p:K2) (sm:SM) (κ:SL->R) (e:R):R :=
  @List.rec (K2×SL) (fun _ => R) e (fun x _ ih => @Prod.rec K2 SL (fun _ => R) (fun q s => We (K2.beq q p) (κ s) ih) x) sm
def CJ (p:K2):SM->Option SL
  | [] => none
  | x::l => br (K2.beq x.1 p) (some x.2) (CJ p l)
theorem Ly (p:K2) (sm:SM) (κ:SL->R) (e:R):I0 p sm κ e=match CJ p sm with | some s => κ s | none => e := by
  induction sm with
  | nil => rfl
  | cons x l ih =>
    obtain ⟨q, s⟩ := x
    have e1:I0 p ((q, s)::l) κ e=We (K2.beq q p) (κ s) (I0 p l κ e) := rfl
    rw [e1, ih]
    simp only [CJ]
    cases K2.beq q p <;> rfl
def O8.beq (a b:O8):Bool := Nat.beq (@O8.rec (fun _ => Nat) 0 1 2 3 4 5 6 7 a) (@O8.rec (fun _ => Nat) 0 1 2 3 4 5 6 7 b)
def O4.beq (a b:O4):Bool := Nat.beq (@O4.rec (fun _ => Nat) 0 1 2 3 a) (@O4.rec (fun _ => Nat) 0 1 2 3 b)
theorem O8.beq_self (a:O8):a.beq a=true := by cases a <;> rfl
theorem O4.beq_self (a:O4):a.beq a=true := by cases a <;> rfl
def SL.beq (s s':SL):Bool := and (s.a.beq s'.a) (s.b.beq s'.b)
/-- No two registers at one place. -/
def PK:SM->Bool
  | [] => true
  | x::l => (l.all fun y => !SL.beq x.2 y.2)&&PK l
theorem Hl {p:K2} {s:SL}:∀ {sm:SM}, CJ p sm=some s->(p, s)∈sm
  | [], h => by cases h
  | x::l, h => by
    simp only [CJ] at h
    cases hb:K2.beq x.1 p with
    | true =>
      rw [hb] at h
      have h:some x.2=some s := h
      cases h
      rw [←K2.beq_iff.1 hb]
      exact List.mem_cons_self ..
    | false => rw [hb] at h; exact List.mem_cons_of_mem _ (Hl h)
theorem OI:∀ {sm:SM}, PK sm=true->∀ {p q:K2} {s:SL}, CJ p sm=some s->CJ q sm=some s->p=q
  | [], _, p, q, s, h, _ => by cases h
  | x::l, hok, p, q, s, hp, hq => by
    simp only [PK, Bool.and_eq_true] at hok
    have no:∀ r, (r, x.2) ∉ l := fun r hr => by
      have := List.all_eq_true.1 hok.1 _ hr
      simp [SL.beq, O8.beq_self, O4.beq_self] at this
    simp only [CJ] at hp hq
    cases hbp:K2.beq x.1 p with
    | true =>
      rw [hbp] at hp
      have hp:some x.2=some s := hp
      cases hp
      cases hbq:K2.beq x.1 q with
      | true => rw [←K2.beq_iff.1 hbp, ←K2.beq_iff.1 hbq]
      | false => rw [hbq] at hq; exact absurd (Hl hq) (no _)
    | false =>
      rw [hbp] at hp
      cases hbq:K2.beq x.1 q with
      | true =>
        rw [hbq] at hq
        have hq:some x.2=some s := hq
        cases hq
        exact absurd (Hl hp) (no _)
      | false => rw [hbq] at hq; exact OI hok.2 hp hq
abbrev GU := List (K2×V)
abbrev Su (p:K2) (env:GU) (κ:V->R) (e:R):R :=
  @List.rec (K2×V) (fun _ => R) e (fun x _ ih => @Prod.rec K2 V (fun _ => R) (fun q v => We (K2.beq q p) (κ v) ih) x) env
abbrev Bi (sm:SM) (env:GU) (t:S):Ig := fun o κ => @Opd.rec (fun _ => R) (fun p => Su p env κ (I0 p sm (fun s => UL s t κ) (.fail ""))) (fun v => κ v) o
abbrev Dp (sm:SM) (d:Option K2) (t:S) (v:V) (κ:S->R):R :=
  @Option.rec K2 (fun _ => R) (κ t) (fun p => I0 p sm (fun s => UV s t v κ) (κ t)) d
abbrev Ca (d:Option K2) (v:V) (env:GU):GU := @Option.rec K2 (fun _ => GU) env (fun p => (p, v)::env) d
def N8 (w:Bool) (v:V) (yes no:R):R :=
  @V.rec (fun _ => R) (fun _ => Unit) (fun _ _ => no) (fun b => br (Bool.rec (Bool.rec true false b) b w) yes no) (fun _ _ => no) (fun _ _ _ _ _ _ => no) (fun _ _ => no) (fun _ _ => no) (fun _ => no) (fun _ => no) (fun _ _ _ => no) (fun _ _ => no) (fun o => .fail "") () (fun _ _ _ _ => ()) v
/-- A guarded operation and what comes behind it. -/
def gd (w:Bool) (v:V) (F:KV->R) (κ:KV) (h:Heap) (n:K4):R := N8 w v (F κ) (κ Ay h n)
def JL (w:Bool) (v:V) (F:(V->R)->R) (κ:V->R):R := N8 w v (F κ) (κ Ay)
def ZC (w:Bool) (v:V) (F:R->R) (κ:R):R := N8 w v (F κ) κ
abbrev I5 (g:Option (K2×Bool)) (ε:Ig) (F:KV->R) (κ:KV) (h:Heap) (n:K4):R :=
  @Option.rec (K2×Bool) (fun _ => R) (F κ) (fun p => @Prod.rec K2 Bool (fun _ => R) (fun r w => ε (.t r) fun v => gd w v F κ h n) p) g
abbrev Ku (g:Option (K2×Bool)) (ε:Ig) (F:(V->R)->R) (κ:V->R):R :=
  @Option.rec (K2×Bool) (fun _ => R) (F κ) (fun p => @Prod.rec K2 Bool (fun _ => R) (fun r w => ε (.t r) fun v => JL w v F κ) p) g
abbrev PM (g:Option (K2×Bool)) (ε:Ig) (F:R->R) (κ:R):R :=
  @Option.rec (K2×Bool) (fun _ => R) (F κ) (fun p => @Prod.rec K2 Bool (fun _ => R) (fun r w => ε (.t r) fun v => ZC w v F κ) p) g
abbrev Dy (sm:SM) (cf:DZ) (l:List AOp):GU->S->Heap->K4->(GU->S->Heap->K4->R)->R :=
  @List.rec AOp (fun _ => GU->S->Heap->K4->(GU->S->Heap->K4->R)->R) (fun env t h n κ => κ env t h n)
    (fun o _ ih env t h n κ => @AOp.rec (fun _ => R) (fun d g k => I5 g (Bi sm env t) (Gt k cf (Bi sm env t) h n) (fun v h n => Dp sm d t v fun t => ih (Ca d v env) t h n κ) h n) o) l
def AB (r:R) (κ:V->R):R := @R.rec (fun _ => R) (Fp "") (fun v h n => κ v) (fun w => .fail w) (Fp "") r
abbrev FV (sm:SM) (cf:DZ) (b:K4) (i:Item) (env:GU) (t:S) (h0 h1:Heap) (n:K4) (κ:GU->S->Heap->Heap->K4->R):R :=
  @Item.rec (fun _ => R)
    (fun _ o => @AOp.rec (fun _ => R) (fun d g k => Ku g (Bi sm env t) (AB (Gt k cf (Bi sm env t) h0 n JV)) (fun v => Dp sm d t v fun t => κ (Ca d v env) t h0 h1 n)) o)
    (fun _ o => @AOp.rec (fun _ => R) (fun d g k => I5 g (Bi sm env t) (HN (Gt k cf (Bi sm env t) h1 n R.rv)) (fun v h n => Dp sm d t v fun t => κ (Ca d v env) t h h n) h1 n) o)
    (fun _ j o => @AOp.rec (fun _ => R) (fun d g k => I5 g (Bi sm env t) (fun κ => b.at j fun r => Bt r h1 fun x => Gh x (HN (Gt k cf (Bi sm env t) h1 r R.rv) κ)) (fun v h _ => Dp sm d t v fun t => κ (Ca d v env) t h0 h n) h1 n) o)
    (fun _ o => @AOp.rec (fun _ => R) (fun d g k => PM g (Bi sm env t) (fun e => S6 d fun p => AB (Gt k cf (Bi sm env t) h0 n JV) fun v => Bi sm env t (.t p) fun x => BE x v e) (κ env t h0 h1 n)) o)
    (fun j => b.at j fun r => Bt r h0 fun x => Gh x (κ env t h0 h1 n))
    (fun _ j o => @AOp.rec (fun _ => R) (fun d g k => Ku g (Bi sm env t) (fun κ => b.at j fun r => Bt r h1 fun x => VU x fun ob => BW r AJ (some ob) fun hx => AB (Gt k cf (Bi sm env t) hx n JV) κ) (fun v => Dp sm d t v fun t => κ (Ca d v env) t h0 h1 n)) o) i
abbrev DT (sm:SM) (cf:DZ) (b:K4) (l:List Item):GU->S->Heap->Heap->K4->(GU->S->Heap->Heap->K4->R)->R :=
  @List.rec Item (fun _ => GU->S->Heap->Heap->K4->(GU->S->Heap->Heap->K4->R)->R) (fun env t h0 h1 n κ => κ env t h0 h1 n)
    (fun i _ ih env t h0 h1 n κ => FV sm cf b i env t h0 h1 n fun env t h0 h1 n => ih env t h0 h1 n κ) l
def HS (sm:SM) (p:K2):Bool := @Option.rec SL (fun _ => Bool) false (fun _ => true) (CJ p sm)
def E1 (sm:SM) (dom:List K2) (p:K2):Bool := Ux p dom || HS sm p
def PB (sm:SM) (dom:List K2) (o:AOp):Bool := o.slots.all (E1 sm dom)
def Gx (d:Option K2) (dom:List K2):List K2 := match d with | none => dom | some p => p::dom
def GQ (sm:SM):List AOp->List K2->Bool
  | [], _ => true
  | o::l, dom => PB sm dom o&&GQ sm l (Gx o.dst dom)
def D4:List AOp->List K2->List K2
  | [], dom => dom
  | o::l, dom => D4 l (Gx o.dst dom)
def Item.op:Item->Option AOp
  | .rd _ o => some o
  | .ef _ o => some o
  | .al _ _ o => some o
  | .rn _ _ o => some o
  | _ => none
def Py (sm:SM) (dom:List K2):Item->Bool
  | .rd _ o => PB sm dom o
  | .ef _ o => PB sm dom o
  | .al _ _ o => PB sm dom o
  | .rn _ _ o => PB sm dom o
  | .ck _ o => PB sm dom o&&match o.dst with | some p => E1 sm dom p | none => true
  | .no _ => true
def Nj (i:Item) (dom:List K2):List K2 := match i.op with | some o => Gx o.dst dom | none => dom
def Iw (sm:SM):List Item->List K2->Bool
  | [], _ => true
  | i::l, dom => Py sm dom i&&Iw sm l (Nj i dom)
def Iy:List Item->List K2->List K2
  | [], dom => dom
  | i::l, dom => Iy l (Nj i dom)
section
variable {P:Program} {ρ:Env} {B N:Nat} {cf:CF} {cf2:DZ} {sm:SM}
def Ft (p:K2):GU->Option V
  | [] => none
  | x::l => br (K2.beq x.1 p) (some x.2) (Ft p l)
theorem DD {p:K2} {v:V} {env:GU}:Ft p ((p, v)::env)=some v := by
  simp only [Ft, K2.beq_iff.2 rfl]; rfl
theorem Gi {p q:K2} {v:V} {env:GU} (h:p≠q):Ft q ((p, v)::env)=Ft q env := by
  have:K2.beq p q=false := by
    cases hb:K2.beq p q with
    | false => rfl
    | true => exact absurd (K2.beq_iff.1 hb) h
  simp only [Ft, this]; rfl
theorem UF (p:K2) (env:GU) (κ:V->R) (e:R):Su p env κ e=match Ft p env with | some v => κ v | none => e := by
  induction env with
  | nil => rfl
  | cons x l ih =>
    obtain ⟨q, v⟩ := x
    have e1:Su p ((q, v)::l) κ e=We (K2.beq q p) (κ v) (Su p l κ e) := rfl
    rw [e1, ih]
    by_cases h:q=p
    · subst h; rw [DD, K2.beq_iff.2 rfl]
    · rw [Gi h]
      have:K2.beq q p=false := by
        cases hb:K2.beq q p with
        | false => rfl
        | true => exact absurd (K2.beq_iff.1 hb) h
      rw [this]
/-- The full registers t, those kept t', and what the region has told. -/
structure RI (sm:SM) (dom:List K2) (env:GU) (t:Regs) (t':S):Prop where
  inj:∀ {p q s}, CJ p sm=some s->CJ q sm=some s->p=q
  told:∀ p v, Ft p env=some v->Bg p t=v
  dom:∀ p, p∈dom->∃ v, Ft p env=some v
  keep:∀ p s, CJ p sm=some s->S.get s t'=Bg p t
theorem Pe {p:K2} (h:HS sm p=true):∃ s, CJ p sm=some s := by
  unfold HS at h
  cases hf:CJ p sm with
  | none => rw [hf] at h; cases h
  | some s => exact ⟨s, rfl⟩
theorem RI.tell {dom:List K2} {env:GU} {t:Regs} {t':S} (r:RI sm dom env t t') {p:K2} (h:E1 sm dom p=true) (κ:V->R):Bi sm env t' (.t p) κ=κ (Bg p t) := by
  have e1:Bi sm env t' (.t p) κ=Su p env κ (I0 p sm (fun s => UL s t' κ) (.fail "")) := rfl
  rw [e1, UF, Ly]
  cases hf:Ft p env with
  | some v => rw [r.told p v hf]
  | none =>
    have hk:HS sm p=true := by
      unfold E1 at h
      rw [Bool.or_eq_true] at h
      rcases h with h | h
      · obtain ⟨v, hv⟩ := r.dom p (OZ.1 h); rw [hf] at hv; cases hv
      · exact h
    obtain ⟨s, hs⟩ := Pe hk
    rw [hs]
    show UL s t' κ=_
    rw [UK, r.keep p s hs]
theorem RI.tells {dom:List K2} {env:GU} {t:Regs} {t':S} (r:RI sm dom env t t') {o:AOp} (h:PB sm dom o=true):(∀ x∈o.k.opds, ∀ κ, Bi sm env t' x κ=κ (ev x t))∧(∀ p w, o.g=some (p, w)->∀ κ, Bi sm env t' (.t p) κ=κ (Bg p t)) := by
  have h := List.all_eq_true.1 h
  refine ⟨fun x hx κ => ?_, fun p w hg κ => r.tell (h p ?_) κ⟩
  · cases x with
    | c v => rfl
    | t p => exact r.tell (h p (List.mem_append_left _ (List.mem_filterMap.2 ⟨.t p, hx, rfl⟩))) κ
  · refine List.mem_append_right _ ?_
    rw [hg]; simp
theorem RI.start (hi:∀ {p q s}, CJ p sm=some s->CJ q sm=some s->p=q) {t:Regs} {t':S} (h:∀ p s, CJ p sm=some s->S.get s t'=Bg p t):RI sm [] [] t t' :=
  ⟨hi, fun p v h => (by simp [Ft] at h), fun p h => (by simp at h), h⟩
theorem RI.put {dom:List K2} {env:GU} {t:Regs} {t':S} (r:RI sm dom env t t') (d:Option K2) (v:V) (κ:S->R) :
    ∃ t1', Dp sm d t' v κ=κ t1'∧RI sm (Gx d dom) (Ca d v env) (Ds d t v) t1' := by
  cases d with
  | none => exact ⟨t', rfl, r⟩
  | some p =>
    have e1:Dp sm (some p) t' v κ=I0 p sm (fun s => UV s t' v κ) (κ t') := rfl
    have e2:Ca (some p) v env=(p, v)::env := rfl
    have told:∀ q u, Ft q ((p, v)::env)=some u->Bg q (Ds (some p) t v)=u := fun q u hq => by
      by_cases e:p=q
      · subst e; rw [DD] at hq; cases hq; exact B7 _ _ _
      · rw [Gi e] at hq
        rw [show Bg q (Ds (some p) t v)=Bg q t from Bx _ _ e]; exact r.told q u hq
    have dm:∀ q, q∈Gx (some p) dom->∃ u, Ft q ((p, v)::env)=some u := fun q hq => by
      by_cases e:p=q
      · subst e; exact ⟨v, DD⟩
      · rw [Gi e]
        rcases List.mem_cons.1 hq with h | h
        · exact absurd h.symm e
        · exact r.dom q h
    rw [e1, Ly]
    cases hk:CJ p sm with
    | some s =>
      refine ⟨S.put s t' v, V2 _ _ _ _, ?_⟩
      rw [e2]
      refine ⟨r.inj, told, dm, fun q s' hq => ?_⟩
      show S.get s' (S.put s t' v)=Bg q (EM p t v)
      by_cases e:p=q
      · subst e
        rw [hk] at hq; cases hq
        rw [B7, S.get_put_same]
      · have hs:s≠s' := fun hs => e (r.inj (hs ▸ hk) hq)
        rw [Bx _ _ e, S.get_put_ne _ _ hs]; exact r.keep q s' hq
    | none =>
      refine ⟨t', rfl, ?_⟩
      rw [e2]
      refine ⟨r.inj, told, dm, fun q s' hq => ?_⟩
      have e:p≠q := fun e => by subst e; rw [hk] at hq; cases hq
      show S.get s' t'=Bg q (EM p t v)
      rw [Bx _ _ e]; exact r.keep q s' hq
theorem Ja {p:K2} {w:Bool} {t:Regs} {yes no:R}:N8 w (Bg p t) yes no=D2 (some (p, w)) t yes no := (CY p t _).symm
theorem IZ {g:Option (K2×Bool)} {ε:Ig} {t:Regs} {F:KV->R} {κ:KV} {h:Heap} {n:K4} (hh:∀ p w, g=some (p, w)->∀ κ, ε (.t p) κ=κ (Bg p t)):I5 g ε F κ h n=D2 g t (F κ) (κ Ay h n) := by
  cases g with
  | none => rfl
  | some pw =>
    obtain ⟨p, w⟩ := pw
    exact (hh p w rfl _).trans Ja
theorem MD {g:Option (K2×Bool)} {ε:Ig} {t:Regs} {F:(V->R)->R} {κ:V->R} (hh:∀ p w, g=some (p, w)->∀ κ, ε (.t p) κ=κ (Bg p t)):Ku g ε F κ=D2 g t (F κ) (κ Ay) := by
  cases g with
  | none => rfl
  | some pw =>
    obtain ⟨p, w⟩ := pw
    exact (hh p w rfl _).trans Ja
theorem Rp {g:Option (K2×Bool)} {ε:Ig} {t:Regs} {F:R->R} {κ:R} (hh:∀ p w, g=some (p, w)->∀ κ, ε (.t p) κ=κ (Bg p t)):PM g ε F κ=D2 g t (F κ) κ := by
  cases g with
  | none => rfl
  | some pw =>
    obtain ⟨p, w⟩ := pw
    exact (hh p w rfl _).trans Ja
def ND (cf:CF) (o:AOp) (t:Regs) (h:Heap) (n:K4) (κ:KV):R := D2 o.g t (HK o.k cf t h n κ) (κ Ay h n)
theorem P8 (hρ:Bo ρ) (hcf:E9 P ρ B cf) {ops:Array Oper} {o:Oper} {ao:AOp} (hc:Jp P N ops o=some ao) {t:Regs} {h:Heap} {n:K4} {κ:KV} (hg:(ND cf ao t h n κ).good) :
    ∃ v h1 n1, ND cf ao t h n κ=κ v h1 n1 ∧ ∀ φ a w, TR ρ N φ t a->Gam ρ B h n φ w->∀ (K:Act->World->Prop) (Q:Exit->Act->World->Prop),
      (∀ φ' a' w', Fr h h1 φ φ' n n1 w w'->Gam ρ B h1 n1 φ' w'->TR ρ N φ' (Ds ao.dst t v) a'->K a' w')->Ck P ops o a w K Q := by
  obtain ⟨hd, hgd, hk⟩ := BJ hc
  rcases GY (ρ := ρ) (o := o) (show R.good (D2 _ _ _ _) from hg) hgd with ⟨e1, hw⟩ | ⟨e1, hw⟩
  · have e1:ND cf ao t h n κ=_ := e1
    rw [e1] at hg
    have hs:CX P ρ B N o (HK ao.k cf t h n) t h n := by
      rcases hk with hk | ⟨why, hk⟩
      · exact KF hρ hcf hk
      · rw [hk]; exact RW (cf := cf) (why := why)
    obtain ⟨v, h1, n1, e2, hstep⟩ := hs _ hg
    refine ⟨v, h1, n1, e1.trans e2, fun φ a w hT g K Q hK => ?_⟩
    unfold Ck
    rw [if_pos (hw φ a hT)]
    exact hstep φ a w hT g K Q fun φ' x w' f1 g1 r1 => hK φ' _ w' f1 g1 ((hT.mono f1.ext).puts hd r1)
  · have e1:ND cf ao t h n κ=_ := e1
    refine ⟨Ay, h, n, e1, fun φ a w hT g K Q hK => ?_⟩
    unfold Ck
    rw [if_neg (by rw [hw φ a hT]; simp)]
    exact hK φ _ w (Fr.refl h φ n w) g (hT.puts hd EZ)
/-- A list of operations, and what comes behind it. -/
def Fu (P:Program) (ops:Array Oper) (Q:Exit->Act->World->Prop) (K:Act->World->Prop):List Oper->Act->World->Prop
  | [], a, w => K a w
  | o::rest, a, w => if Region.wanted o (yielded ops a.tmps)=true then o.wp P a w (Fu P ops Q K rest) Q else Fu P ops Q K rest (a.put o.dst undef) w
theorem GF {ops:Array Oper} {Q:Exit->Act->World->Prop} {r:List Oper}:∀ {l:List Oper} {a:Act} {w:World}, Fu P ops Q (wpList P ops Q r) l a w->wpList P ops Q (l++r) a w
  | [], _, _, h => h
  | o::l, a, w, h => by
    show wpList P ops Q (o::(l++r)) a w
    simp only [wpList]
    unfold Fu at h
    split
    · rw [if_pos (by assumption)] at h
      refine .inl ?_
      exact Oper.wp_mono (fun a w h => GF h) h
    · rw [if_neg (by assumption)] at h; exact GF h
theorem DG (hρ:Bo ρ) (hcf:E9 P ρ B cf) (h2:∀ f, cf2 (Bz f)=cf f) {ops:Array Oper}:∀ {l:List Oper} {al:List AOp} {dom:List K2} {env:GU} {t:Regs} {t':S} {h:Heap} {n:K4} {κ:GU->S->Heap->K4->R},
    HM P N ops l=some al->GQ sm al dom=true->RI sm dom env t t'->(Dy sm cf2 al env t' h n κ).good →
    ∃ env1 t1 t1' h1 n1, Dy sm cf2 al env t' h n κ=κ env1 t1' h1 n1∧RI sm (D4 al dom) env1 t1 t1' ∧ ∀ φ a w, TR ρ N φ t a->Gam ρ B h n φ w->∀ (Q:Exit->Act->World->Prop) (K:Act->World->Prop),
      (∀ φ' a' w', Fr h h1 φ φ' n n1 w w'->Gam ρ B h1 n1 φ' w'->TR ρ N φ' t1 a'->K a' w')->Fu P ops Q K l a w
  | [], al, dom, env, t, t', h, n, κ, hc, hok, ri, hg => by
    simp only [HM, Option.some.injEq] at hc; subst hc
    exact ⟨env, t, t', h, n, rfl, ri, fun φ a w hT g Q K hQ => hQ φ a w (Fr.refl h φ n w) g hT⟩
  | o::l, al, dom, env, t, t', h, n, κ, hc, hok, ri, hg => by
    simp only [HM] at hc
    split at hc
    · rename_i ao al' ho hl
      cases hc
      simp only [GQ, Bool.and_eq_true] at hok
      have ht := ri.tells hok.1
      have e0:Dy sm cf2 (ao::al') env t' h n κ=I5 ao.g (Bi sm env t') (Gt ao.k cf2 (Bi sm env t') h n) (fun v h n => Dp sm ao.dst t' v fun t => Dy sm cf2 al' (Ca ao.dst v env) t h n κ) h n := by cases ao; rfl
      have e1:Dy sm cf2 (ao::al') env t' h n κ=ND cf ao t h n (fun v h n => Dp sm ao.dst t' v fun t => Dy sm cf2 al' (Ca ao.dst v env) t h n κ) := by
        rw [e0, IZ ht.2, Hu ht.1 h2]; rfl
      rw [e1] at hg ⊢
      obtain ⟨v, h1, n1, e2, H1⟩ := P8 (B := B) hρ hcf ho hg
      rw [e2] at hg ⊢
      obtain ⟨t1', e3, ri1⟩ := ri.put ao.dst v (fun t => Dy sm cf2 al' (Ca ao.dst v env) t h1 n1 κ)
      rw [e3] at hg ⊢
      obtain ⟨env2, t2, t2', hh2, n2, e4, ri2, H2⟩ := DG hρ hcf h2 hl hok.2 ri1 hg
      refine ⟨env2, t2, t2', hh2, n2, e4, ri2, fun φ a w hT g Q K hQ => ?_⟩
      have := H1 φ a w hT g (Fu P ops Q K l) Q fun φ' a' w' f1 g1 T1 => H2 φ' a' w' T1 g1 Q K fun φ2 a2 w2 f2 g2 T2 => hQ φ2 a2 w2 (Fr.trans f1 f2) g2 T2
      exact this
    · cases hc
theorem P9 (hρ:Bo ρ) (hcf:E9 P ρ B cf) (h2:∀ f, cf2 (Bz f)=cf f) {ops:Array Oper} {l:List Oper} {al:List AOp} {dom:List K2} {env:GU} {t:Regs} {t':S} {h:Heap} {n:K4} {κ:GU->S->Heap->K4->R}
    (hc:HM P N ops l=some al) (hok:GQ sm al dom=true) (ri:RI sm dom env t t') (hg:(Dy sm cf2 al env t' h n κ).good) :
    ∃ env1 t1 t1' h1 n1, Dy sm cf2 al env t' h n κ=κ env1 t1' h1 n1∧RI sm (D4 al dom) env1 t1 t1' ∧ ∀ φ a w, TR ρ N φ t a->Gam ρ B h n φ w->∀ (Q:Exit->Act->World->Prop),
      (∀ φ' a' w', Fr h h1 φ φ' n n1 w w'->Gam ρ B h1 n1 φ' w'->TR ρ N φ' t1 a'->Q .normal a' w')->wpList P ops Q l a w := by
  obtain ⟨env1, t1, t1', h1, n1, e1, ri1, H⟩ := DG hρ hcf h2 hc hok ri hg
  exact ⟨env1, t1, t1', h1, n1, e1, ri1, fun φ a w hT g Q hQ => by have := GF (r := []) (H φ a w hT g Q (wpList P ops Q []) hQ); rwa [List.append_nil] at this⟩
theorem Ke {r:R} {κ:V->R} (hg:(AB r κ).good):∃ v h n, r = .rv v h n∧AB r κ=κ v := by
  cases r with
  | ok e t h n => exact hg.elim
  | rv v h n => exact ⟨v, h, n, rfl, rfl⟩
  | fail w => exact hg.elim
  | both a b => exact hg.elim
theorem OD (h2:∀ f, cf2 (Bz f)=cf f) {b:K4} {i:Item} {dom:List K2} {env:GU} {s:St} {t':S} {κ:GU->S->Heap->Heap->K4->R} (hok:Py sm dom i=true) (ri:RI sm dom env s.t t') (hg:(FV sm cf2 b i env t' s.h0 s.h1 s.n κ).good) :
    ∃ s' env1 t1', IV cf b i s s'∧RI sm (Nj i dom) env1 s'.t t1'∧FV sm cf2 b i env t' s.h0 s.h1 s.n κ=κ env1 t1' s'.h0 s'.h1 s'.n := by
  obtain ⟨t, h0, h1, n⟩ := s
  cases i with
  | rd i o =>
    have ht := ri.tells hok
    have e0:FV sm cf2 b (.rd i o) env t' h0 h1 n κ=Ku o.g (Bi sm env t') (AB (Gt o.k cf2 (Bi sm env t') h0 n JV)) (fun v => Dp sm o.dst t' v fun t => κ (Ca o.dst v env) t h0 h1 n) := by cases o; rfl
    simp only [e0] at hg ⊢
    rw [MD ht.2, Hu ht.1 h2] at hg ⊢
    rcases Fj hg with hy | hn
    · rw [hy] at hg
      obtain ⟨v, h, n', e1, e2⟩ := Ke hg
      obtain ⟨t1', e3, ri1⟩ := ri.put o.dst v (fun t => κ (Ca o.dst v env) t h0 h1 n)
      exact ⟨_, _, _, .inl ⟨hy, v, h, n', e1, rfl⟩, ri1, by rw [hy, e2, e3]⟩
    · obtain ⟨t1', e3, ri1⟩ := ri.put o.dst Ay (fun t => κ (Ca o.dst Ay env) t h0 h1 n)
      exact ⟨_, _, _, .inr ⟨hn, rfl⟩, ri1, by rw [hn, e3]⟩
  | ef i o =>
    have ht := ri.tells hok
    have e0:FV sm cf2 b (.ef i o) env t' h0 h1 n κ=I5 o.g (Bi sm env t') (HN (Gt o.k cf2 (Bi sm env t') h1 n R.rv)) (fun v h n => Dp sm o.dst t' v fun t => κ (Ca o.dst v env) t h h n) h1 n := by cases o; rfl
    simp only [e0] at hg ⊢
    rw [IZ ht.2, Hu ht.1 h2] at hg ⊢
    rcases Fj hg with hy | hn
    · rw [hy] at hg
      obtain ⟨v, h, n', e1, e2⟩ := Ou hg
      obtain ⟨t1', e3, ri1⟩ := ri.put o.dst v (fun t => κ (Ca o.dst v env) t h h n')
      exact ⟨_, _, _, .inl ⟨hy, v, h, n', e1, rfl⟩, ri1, by rw [hy, e2, e3]⟩
    · obtain ⟨t1', e3, ri1⟩ := ri.put o.dst Ay (fun t => κ (Ca o.dst Ay env) t h1 h1 n)
      exact ⟨_, _, _, .inr ⟨hn, rfl⟩, ri1, by rw [hn, e3]⟩
  | al i j o =>
    have ht := ri.tells hok
    have e0:FV sm cf2 b (.al i j o) env t' h0 h1 n κ=I5 o.g (Bi sm env t') (fun κ => Gh (A8 (Eo b j) h1) (HN (Gt o.k cf2 (Bi sm env t') h1 (Eo b j) R.rv) κ)) (fun v h _ => Dp sm o.dst t' v fun t => κ (Ca o.dst v env) t h0 h n) h1 n := by
      have:∀ κ:KV, (b.at j fun r => Bt r h1 fun x => Gh x (HN (Gt o.k cf2 (Bi sm env t') h1 r R.rv) κ))=Gh (A8 (Eo b j) h1) (HN (Gt o.k cf2 (Bi sm env t') h1 (Eo b j) R.rv) κ) := fun κ => by
        rw [K4.at_eq, Bm]; rfl
      cases o
      simp only [←this]
    simp only [e0] at hg ⊢
    rw [IZ ht.2, Hu ht.1 h2] at hg ⊢
    rcases Fj hg with hy | hn
    · rw [hy] at hg
      obtain ⟨h3, e3⟩ := K6 hg
      rw [e3] at hg
      obtain ⟨v, h, n', e1, e2⟩ := Ou hg
      obtain ⟨t1', e4, ri1⟩ := ri.put o.dst v (fun t => κ (Ca o.dst v env) t h0 h n)
      exact ⟨_, _, _, .inl ⟨hy, h3, v, h, n', e1, rfl⟩, ri1, by rw [hy, e3, e2, e4]⟩
    · obtain ⟨t1', e3, ri1⟩ := ri.put o.dst Ay (fun t => κ (Ca o.dst Ay env) t h0 h1 n)
      exact ⟨_, _, _, .inr ⟨hn, rfl⟩, ri1, by rw [hn, e3]⟩
  | ck i o =>
    simp only [Py, Bool.and_eq_true] at hok
    have ht := ri.tells hok.1
    have e0:FV sm cf2 b (.ck i o) env t' h0 h1 n κ=PM o.g (Bi sm env t') (fun e => S6 o.dst fun p => AB (Gt o.k cf2 (Bi sm env t') h0 n JV) fun v => Bi sm env t' (.t p) fun x => BE x v e) (κ env t' h0 h1 n) := by cases o; rfl
    simp only [e0] at hg ⊢
    rw [Rp ht.2, Hu ht.1 h2] at hg ⊢
    rcases Fj hg with hy | hn
    · rw [hy] at hg
      cases hd:o.dst with
      | none => rw [hd] at hg; exact hg.elim
      | some p =>
        have hkn:E1 sm dom p=true := by have := hok.2; rw [hd] at this; exact this
        rw [hd] at hg
        have e5:(S6 (some p) fun p => AB (HK o.k cf t h0 n JV) fun v => Bi sm env t' (.t p) fun x => BE x v (κ env t' h0 h1 n))=AB (HK o.k cf t h0 n JV) fun v => BE (Bg p t) v (κ env t' h0 h1 n) := by
          show AB _ (fun v => Bi sm env t' (.t p) fun x => BE x v (κ env t' h0 h1 n))=_
          congr 1; funext v
          exact ri.tell hkn _
        rw [e5] at hg
        obtain ⟨v, h, n', e1, e2⟩ := Ke hg
        rw [e2] at hg
        obtain ⟨e3, e4⟩ := El hg
        exact ⟨_, env, t', ⟨rfl, .inl ⟨hy, p, h, n', hd, by show HK o.k cf t h0 n JV = .rv (Bg p t) h n'; rw [e3]; exact e1⟩⟩, ri, by rw [hy]; exact e5.trans (e2.trans e4)⟩
    · exact ⟨_, env, t', ⟨rfl, .inr hn⟩, ri, by rw [hn]⟩
  | no j =>
    have e0:FV sm cf2 b (.no j) env t' h0 h1 n κ=Gh (A8 (Eo b j) h0) (κ env t' h0 h1 n) := by
      show b.at j (fun r => Bt r h0 _)=_
      rw [K4.at_eq, Bm]; rfl
    simp only [e0] at hg ⊢
    obtain ⟨h3, e3⟩ := K6 hg
    exact ⟨_, env, t', ⟨rfl, h3⟩, ri, e3⟩
  | rn i j o =>
    have ht := ri.tells hok
    have e0:FV sm cf2 b (.rn i j o) env t' h0 h1 n κ=Ku o.g (Bi sm env t') (fun κ => VU (A8 (Eo b j) h1) fun ob => AB (Gt o.k cf2 (Bi sm env t') (Af (Eo b j) AJ (some ob)) n JV) κ) (fun v => Dp sm o.dst t' v fun t => κ (Ca o.dst v env) t h0 h1 n) := by
      have:∀ κ:V->R, (b.at j fun r => Bt r h1 fun x => VU x fun ob => BW r AJ (some ob) fun hx => AB (Gt o.k cf2 (Bi sm env t') hx n JV) κ)=VU (A8 (Eo b j) h1) fun ob => AB (Gt o.k cf2 (Bi sm env t') (Af (Eo b j) AJ (some ob)) n JV) κ := fun κ => by
        simp only [K4.at_eq, Bm, BZ, B6]; rfl
      cases o
      simp only [←this]
    simp only [e0] at hg ⊢
    simp only [Hu ht.1 h2] at hg ⊢
    rw [MD ht.2] at hg ⊢
    rcases Fj hg with hy | hn
    · rw [hy] at hg
      obtain ⟨ob, h3, e3⟩ := Sv hg
      rw [e3] at hg
      obtain ⟨v, h, n', e1, e2⟩ := Ke hg
      obtain ⟨t1', e4, ri1⟩ := ri.put o.dst v (fun t => κ (Ca o.dst v env) t h0 h1 n)
      exact ⟨_, _, _, .inl ⟨hy, ob, v, h, n', h3, e1, rfl⟩, ri1, by rw [hy, e3, e2, e4]⟩
    · obtain ⟨t1', e3, ri1⟩ := ri.put o.dst Ay (fun t => κ (Ca o.dst Ay env) t h0 h1 n)
      exact ⟨_, _, _, .inr ⟨hn, rfl⟩, ri1, by rw [hn, e3]⟩
theorem IB (h2:∀ f, cf2 (Bz f)=cf f) {b:K4}:∀ {l:List Item} {dom:List K2} {env:GU} {s:St} {t':S} {κ:GU->S->Heap->Heap->K4->R}, Iw sm l dom=true->RI sm dom env s.t t'->(DT sm cf2 b l env t' s.h0 s.h1 s.n κ).good →
    ∃ (st:Nat->St) (env1:GU) (t1':S), st 0=s∧(∀ i x, l[i]? = some x->IV cf b x (st i) (st (i+1)))∧RI sm (Iy l dom) env1 (st l.length).t t1'∧DT sm cf2 b l env t' s.h0 s.h1 s.n κ=κ env1 t1' (st l.length).h0 (st l.length).h1 (st l.length).n
  | [], dom, env, s, t', κ, hok, ri, hg => ⟨fun _ => s, env, t', rfl, fun i x hx => by simp at hx, ri, rfl⟩
  | x::l, dom, env, s, t', κ, hok, ri, hg => by
    simp only [Iw, Bool.and_eq_true] at hok
    have e0:DT sm cf2 b (x::l) env t' s.h0 s.h1 s.n κ=FV sm cf2 b x env t' s.h0 s.h1 s.n fun env t h0 h1 n => DT sm cf2 b l env t h0 h1 n κ := rfl
    rw [e0] at hg
    obtain ⟨s', env1, t1', hs, ri1, e1⟩ := OD h2 hok.1 ri hg
    rw [e1] at hg
    obtain ⟨st, env2, t2', h1, h3, ri2, h4⟩ := IB h2 hok.2 ri1 hg
    refine ⟨fun i => match i with | 0 => s | i+1 => st i, env2, t2', rfl, fun i y hy => ?_, ri2, ?_⟩
    · cases i with
      | zero => simp at hy; subst hy; show IV cf b x s (st 0); rw [h1]; exact hs
      | succ i => exact h3 i y (by simpa using hy)
    · rw [e0, e1, h4]; rfl
end
end Go.Ev

namespace Go.Ev
open Go.ChangeMaps (setBlock)
set_option linter.unusedVariables false
/-- All that it may come to is E1, and meets a condition. -/
def R.sat (Φ:R->Prop):R->Prop
  | .fail _ => False
  | .both a b => a.sat Φ∧b.sat Φ
  | .ok e t h n => Φ (.ok e t h n)
  | .rv v h n => Φ (.rv v h n)
theorem R.sat_good {Φ:R->Prop} {r:R} (h:r.sat Φ):r.good := by cases r <;> first | exact h.elim | trivial
theorem R.sat_mono {Φ Ψ:R->Prop} (H:∀ r, Φ r->Ψ r):∀ {r:R}, r.sat Φ->r.sat Ψ
  | .fail _, h => h.elim
  | .both a b, h => ⟨R.sat_mono H h.1, R.sat_mono H h.2⟩
  | .ok _ _ _ _, h => H _ h
  | .rv _ _ _, h => H _ h
def Uz (q:K4) (h:Heap) (κ0:R) (κ:K4->Nat->List Nat->Nat->R):R :=
  Bt q h fun o => @Option.rec Ob (fun _ => R) (.fail "") (fun o => @Ob.rec (fun _ => R) (Cb "") (Cb "") κ κ0 (AG "") o) o
def UC (v:V) (h:Heap) (n:K4) (κ:KV):R :=
  E2 v (ET h n .it0 fun h' n' => κ (.ptr n 0) h' n') (fun p => RZ p h fun _ _ c => ET h n (.it p c [] c) fun h' n' => κ (.ptr n 0) h' n')
def G1 (s:Nat) (es:List (V×V)):List Nat->(V->V->R)->R :=
  @List.rec (V×V) (fun _ => List Nat->(V->V->R)->R) (AG "")
    (fun e _ ih bs κ => @List.rec Nat (fun _ => R) (.fail "") (fun b tl _ => br (Nat.beq b s) (@Prod.rec V V (fun _ => R) κ e) (ih tl κ)) bs) es
def QL (v:V) (h:Heap) (n:K4) (κ:KV):R :=
  JP v fun q off => br (Nat.beq off 0) (Uz q h (.fail "") fun p since seen c => RZ p h fun es bs clk => br (Nat.beq clk c)
    (@List.rec Nat (fun _ => R) (.fail "") (fun s _ _ => G1 s es bs fun k x => κ (.tup [k, x]) h n) seen) (.fail "")) (.fail "")
/-- Are all stamps elder? -/
def HP (since:Nat) (bs:List Nat):Bool := @List.rec Nat (fun _ => Bool) true (fun b _ ih => br (Nat.ble (Nat.succ b) since) ih false) bs
def Ga (b:Nat) (l:List Nat):Bool := @List.rec Nat (fun _ => Bool) false (fun x _ ih => br (Nat.beq x b) true ih) l
def NG (q p:K4) (since:Nat) (seen:List Nat) (clk:Nat) (h:Heap) (n:K4) (κ:KV) (e:V×V) (b:Nat):R :=
  BW q h (some (.it p since (b::seen) clk)) fun h' => @Prod.rec V V (fun _ => R) (fun k x => κ (.tup [.bool true, k, x]) h' n) e
def FN (seen:List Nat) (leaf:V×V->Nat->R) (es:List (V×V)):List Nat->R->R :=
  @List.rec (V×V) (fun _ => List Nat->R->R) (fun _ acc => acc)
    (fun e _ ih bs acc => @List.rec Nat (fun _ => R) (.fail "") (fun b tl _ => br (Ga b seen) (ih tl acc) (ih tl (.both acc (leaf e b)))) bs) es
def Gv (seen:List Nat) (leaf:V×V->Nat->R) (es:List (V×V)):List Nat->R->R :=
  @List.rec (V×V) (fun _ => List Nat->R->R) (fun _ none => none)
    (fun e es ih bs none => @List.rec Nat (fun _ => R) (.fail "") (fun b tl _ => br (Ga b seen) (ih tl none) (FN seen leaf es tl (leaf e b))) bs) es
def Ur (v:V) (h:Heap) (n:K4) (κ:KV):R :=
  JP v fun q off => br (Nat.beq off 0) (Uz q h (κ (.tup [.bool false]) h n) fun p since seen c => RZ p h fun es bs clk => br (HP since bs) (br (Nat.ble since c)
    (Gv seen (NG q p since seen clk h n κ) es bs (κ (.tup [.bool false]) h n)) (.fail "")) (.fail "")) (.fail "")
section
variable {P:Program} {ρ:Env} {B N:Nat} {o:Oper} {t:Regs} {h:Heap} {n:K4}
theorem O5 {q:K4} {κ0:R} {κ:K4->Nat->List Nat->Nat->R} (hg:(Uz q h κ0 κ).good) :
    (A8 q h=some .it0∧Uz q h κ0 κ=κ0) ∨ ∃ p s l c, A8 q h=some (.it p s l c)∧Uz q h κ0 κ=κ p s l c := by
  have e:Uz q h κ0 κ=@Option.rec Ob (fun _ => R) (.fail "") (fun o => @Ob.rec (fun _ => R) (Cb "") (Cb "") κ κ0 (AG "") o) (A8 q h) := Bm _ _ _
  rw [e] at hg
  cases hx:A8 q h with
  | none => rw [hx] at hg; exact hg.elim
  | some ob =>
    rw [hx] at hg e
    cases ob with
    | c _ _ _ => exact hg.elim
    | m _ _ _ => exact hg.elim
    | it p s l c => exact .inr ⟨p, s, l, c, rfl, e⟩
    | it0 => exact .inl ⟨rfl, e⟩
    | lp _ _ => exact hg.elim
/-- One step of a range. -/
def Te (P:Program) (ρ:Env) (B N:Nat) (o:Oper) (t:Regs) (h:Heap) (n:K4) (f:KV->R):Prop :=
  ∀ (κ:KV) (Φ:R->Prop), (f κ).sat Φ->∀ (φ:AT) (a:Act) (w:World), TR ρ N φ t a->Gam ρ B h n φ w->∀ (K:Act->World->Prop) (Q:Exit->Act->World->Prop),
    (∀ v h1 n1, (κ v h1 n1).sat Φ->∀ φ' x w', Fr h h1 φ φ' n n1 w w'->Gam ρ B h1 n1 φ' w'->As ρ φ' v x->K (a.put o.dst x) w')->o.wp P a w K Q
theorem CX.sp {f:KV->R} (H:CX P ρ B N o f t h n):Te P ρ B N o t h n f := fun κ Φ hs φ a w hT g K Q hK => by
  obtain ⟨v, h1, n1, e, st⟩ := H κ (R.sat_good hs)
  rw [e] at hs
  exact st φ a w hT g K Q fun φ' x w' f1 g1 r1 => hK v h1 n1 hs φ' x w' f1 g1 r1
theorem Rr {ty kt e:TypeId} {x:Operand} {x':Opd} (ho:o.op = .range ty x) (hx:AH N x=some x') (ht:P.underlying ty=some (.map kt e)):CX P ρ B N o (UC (ev x' t) h n) t h n := by
  intro κ hg
  unfold UC at hg ⊢
  rw [IF, GB] at hg ⊢
  rcases Ec hg with ⟨hv, e1⟩ | ⟨p, hv, e1⟩
  · rw [e1] at hg
    obtain ⟨n', hn, e2⟩ := Bp hg
    refine ⟨_, _, _, e1.trans e2, .value fun φ a w hT g => ?_⟩
    have g1 := Ad hx hT
    rw [hv] at g1
    have gx := Cd g1
    refine ⟨_, .pointer (some ⟨w.heap.size, 0, none⟩), w.alloc (.mapIter none 0 #[] 0), ?_, Fr.alloc g.at_n (by omega) (Nat.le_refl _) (by omega) _ _ 0, g.alloc g.at_n (by omega) (by omega) .it0 rfl _ 0 fun φ' hle w' hw' => ⟨rfl, hw'⟩, Dh⟩
    simp [execOp, ho, gx, Ci, Instr.range, run_underlying ht, run_newObj]
  · rw [e1] at hg
    obtain ⟨es, bs, c, hpm, e2⟩ := Fk hg
    rw [e2] at hg
    obtain ⟨n', hn, e3⟩ := Bp hg
    refine ⟨_, _, _, e1.trans (e2.trans e3), .value fun φ a w hT g => ?_⟩
    have g1 := Ad hx hT
    rw [hv] at g1
    obtain ⟨b, s, tot, hφ, gx⟩ := GG g1
    obtain ⟨ents, k1, k2, k3⟩ := g.obj p _ b s tot hpm hφ
    have hgo:(getObj b).run P w = .ok (.map ents c) w := by simp [getObj, Sem.run, k1]
    refine ⟨_, .pointer (some ⟨w.heap.size, 0, none⟩), w.alloc (.mapIter (some b) c #[] c), ?_, Fr.alloc g.at_n (by omega) (Nat.le_refl _) (by omega) _ _ 0, g.alloc g.at_n (by omega) (by omega) (.it p c [] c) rfl _ 0 fun φ' hle w' hw' => ⟨b, s, tot, hle _ _ hφ, rfl, hw'⟩, Dh⟩
    simp only [execOp, ho, gx, Instr.range, Sem.run_bind, run_underlying ht, Result.andThen_ok, hgo]
    simp [run_newObj]
theorem KK {s:Nat}:∀ {es:List (V×V)} {bs:List Nat} {κ:V->V->R}, (G1 s es bs κ).good->∃ (i:Nat) (e:V×V), es[i]? = some e∧bs[i]? = some s∧(∀ j, j<i->bs[j]? ≠ some s)∧G1 s es bs κ=κ e.1 e.2
  | [], bs, κ, h => h.elim
  | (k, x)::es, [], κ, h => h.elim
  | (k, x)::es, b::bs, κ, h => by
    have h:R.good (br (Nat.beq b s) (κ k x) (G1 s es bs κ)) := h
    cases hb:Nat.beq b s with
    | true =>
      refine ⟨0, (k, x), rfl, by rw [Nat.eq_of_beq_eq_true hb]; rfl, fun j hj => by omega, ?_⟩
      show br (Nat.beq b s) (κ k x) (G1 s es bs κ)=_
      rw [hb]; rfl
    | false =>
      rw [hb] at h
      obtain ⟨i, e, h1, h2, h3, h4⟩ := KK (show R.good (G1 s es bs κ) from h)
      refine ⟨i+1, e, by simpa using h1, by simpa using h2, fun j hj => ?_, ?_⟩
      · cases j with
        | zero => intro e; simp at e; subst e; simp at hb
        | succ j => simpa using h3 j (by omega)
      · show br (Nat.beq b s) (κ k x) (G1 s es bs κ)=_
        rw [hb]; exact h4
theorem V3 {l:List MapEntry} {s:Nat}:∀ {i:Nat} {m:MapEntry}, l[i]? = some m->m.born=s->(∀ j, j<i->(l.map (·.born))[j]? ≠ some s)->l.find? (·.born == s)=some m := by
  induction l with
  | nil => intro i m h; simp at h
  | cons x l ih =>
    intro i m h hm hj
    cases i with
    | zero => simp at h; subst h; simp [hm]
    | succ i =>
      have h0 := hj 0 (by omega)
      simp at h0
      rw [List.find?_cons]
      have:(x.born == s)=false := by simpa using h0
      rw [this]
      exact ih (by simpa using h) hm fun j hj' => by have := hj (j+1) (by omega); simpa using this
theorem RT {x:Operand} {x':Opd} (ho:o.op = .entry x) (hx:AH N x=some x'):CX P ρ B N o (QL (ev x' t) h n) t h n := by
  intro κ hg
  unfold QL at hg ⊢
  rw [GB] at hg ⊢
  obtain ⟨q, off, hv, e1⟩ := Dt hg
  rw [e1] at hg
  obtain ⟨h0, e2⟩ := Ae hg
  rw [e2] at hg
  have h0 := Nat.eq_of_beq_eq_true h0
  subst h0
  rcases O5 hg with ⟨hq, e3⟩ | ⟨p, since, seen, c, hq, e3⟩
  · rw [e3] at hg; exact hg.elim
  rw [e3] at hg
  obtain ⟨es, bs, clk, hp, e4⟩ := Fk hg
  rw [e4] at hg
  obtain ⟨h5, e5⟩ := Ae hg
  rw [e5] at hg
  have h5 := Nat.eq_of_beq_eq_true h5
  subst h5
  cases seen with
  | nil => exact hg.elim
  | cons s seen =>
    obtain ⟨i, ee, k1, k2, k3, e6⟩ := KK (show R.good (G1 s es bs fun k x => κ (.tup [k, x]) h n) from hg)
    refine ⟨_, h, n, e1.trans (e2.trans (e3.trans (e4.trans (e5.trans e6)))), .pure fun φ a w hT g => ?_⟩
    have g1 := Ad hx hT
    rw [hv] at g1
    obtain ⟨b, sq, tot, hφ, gx⟩ := D9 g1
    have := g.obj q _ b sq tot hq hφ
    obtain ⟨bm, sm, tm, hφm, hs0, hit⟩ := this
    subst hs0
    obtain ⟨ents, m1, m2, m3⟩ := g.obj p _ bm sm tm hp hφm
    obtain ⟨mm, hmm, hk, hvv⟩ := KL m2 k1
    have hborn:mm.born=s := by
      have:(ents.toList.map (·.born))[i]? = some s := by rw [m3]; exact k2
      rw [List.getElem?_map, hmm] at this
      simpa using this
    have hf:ents.find? (·.born == s)=some mm := by
      rw [←Array.find?_toList]
      exact V3 hmm hborn fun j hj => by rw [m3]; exact k3 j hj
    have hgo1:(getObj b).run P w = .ok (.mapIter (some bm) since (s::seen).reverse.toArray clk) w := by simp [getObj, Sem.run, hit]
    have hgo2:(getObj bm).run P w = .ok (.map ents clk) w := by simp [getObj, Sem.run, m1]
    have hback:(s::seen).reverse.toArray.back? = some s := by simp
    refine ⟨.tuple #[mm.key, mm.val], ?_, by simp only [As, By]; exact ⟨_, rfl, _, _, rfl, hk, _, _, rfl, hvv, rfl⟩⟩
    simp only [execOp, ho, gx, Instr.entry, Nat.zero_add, Sem.run_bind, hgo1, Result.andThen_ok, hback, hgo2]
    simp [hf]
theorem Qd (b:Nat):∀ l:List Nat, Ga b l=l.contains b
  | [] => rfl
  | x::l => by
    show br (Nat.beq x b) true (Ga b l)=_
    rw [Qd b l, List.contains_cons]
    cases hb:Nat.beq x b with
    | true => rw [Nat.eq_of_beq_eq_true hb]; simp [br]
    | false =>
      have:(b == x)=false := by
        cases h:b == x with
        | false => rfl
        | true => have := eq_of_beq h; subst this; rw [Nat.beq_refl] at hb; cases hb
      rw [this]; rfl
theorem M3 {since:Nat}:∀ {bs:List Nat}, HP since bs=true->∀ b∈bs, b<since
  | [], _, b, hb => by simp at hb
  | x::bs, h, b, hb => by
    have h:br (Nat.ble (Nat.succ x) since) (HP since bs) false=true := h
    cases hx:Nat.ble (Nat.succ x) since with
    | false => rw [hx] at h; cases h
    | true =>
      rw [hx] at h
      rcases List.mem_cons.1 hb with e | hb
      · subst e; exact Aa.1 hx
      · exact M3 (show HP since bs=true from h) b hb
section
variable {seen:List Nat} {leaf:V×V->Nat->R} {Φ:R->Prop}
theorem Ia:∀ {es:List (V×V)} {bs:List Nat} {acc:R}, (FN seen leaf es bs acc).sat Φ->acc.sat Φ ∧ ∀ (i:Nat) (e:V×V) (b:Nat), es[i]? = some e->bs[i]? = some b->Ga b seen=false->(leaf e b).sat Φ
  | [], bs, acc, h => ⟨h, fun i e b he => by simp at he⟩
  | e0::es, [], acc, h => h.elim
  | e0::es, b0::bs, acc, h => by
    have h:(br (Ga b0 seen) (FN seen leaf es bs acc) (FN seen leaf es bs (.both acc (leaf e0 b0)))).sat Φ := h
    cases hm:Ga b0 seen with
    | true =>
      rw [hm] at h
      obtain ⟨h1, h2⟩ := Ia (show (FN seen leaf es bs acc).sat Φ from h)
      refine ⟨h1, fun i e b he hb hn => ?_⟩
      cases i with
      | zero => simp at he hb; subst he hb; rw [hm] at hn; cases hn
      | succ i => exact h2 i e b (by simpa using he) (by simpa using hb) hn
    | false =>
      rw [hm] at h
      obtain ⟨h1, h2⟩ := Ia (show (FN seen leaf es bs (.both acc (leaf e0 b0))).sat Φ from h)
      refine ⟨h1.1, fun i e b he hb hn => ?_⟩
      cases i with
      | zero => simp at he hb; subst he hb; exact h1.2
      | succ i => exact h2 i e b (by simpa using he) (by simpa using hb) hn
theorem Kt:∀ {es:List (V×V)} {bs:List Nat} {none:R}, (Gv seen leaf es bs none).sat Φ->((∀ b∈bs, Ga b seen=true)->es.length=bs.length->none.sat Φ) ∧ ∀ (i:Nat) (e:V×V) (b:Nat), es[i]? = some e->bs[i]? = some b->Ga b seen=false->(leaf e b).sat Φ
  | [], bs, acc, h => ⟨fun _ _ => h, fun i e b he => by simp at he⟩
  | e0::es, [], acc, h => h.elim
  | e0::es, b0::bs, acc, h => by
    have h:(br (Ga b0 seen) (Gv seen leaf es bs acc) (FN seen leaf es bs (leaf e0 b0))).sat Φ := h
    cases hm:Ga b0 seen with
    | true =>
      rw [hm] at h
      obtain ⟨h1, h2⟩ := Kt (show (Gv seen leaf es bs acc).sat Φ from h)
      refine ⟨fun ha hl => h1 (fun b hb => ha b (List.mem_cons_of_mem _ hb)) (by simpa using hl), fun i e b he hb hn => ?_⟩
      cases i with
      | zero => simp at he hb; subst he hb; rw [hm] at hn; cases hn
      | succ i => exact h2 i e b (by simpa using he) (by simpa using hb) hn
    | false =>
      rw [hm] at h
      obtain ⟨h1, h2⟩ := Ia (show (FN seen leaf es bs (leaf e0 b0)).sat Φ from h)
      refine ⟨fun ha _ => absurd (ha b0 (List.mem_cons_self ..)) (by rw [hm]; simp), fun i e b he hb hn => ?_⟩
      cases i with
      | zero => simp at he hb; subst he hb; exact h1
      | succ i => exact h2 i e b (by simpa using he) (by simpa using hb) hn
end
theorem X9 {x:Operand} {x':Opd} (ho:o.op = .next x false) (hx:AH N x=some x'):Te P ρ B N o t h n (Ur (ev x' t) h n) := by
  intro κ Φ hs φ a w hT g K Q hK
  unfold Ur at hs
  rw [GB] at hs
  obtain ⟨q, off, hv, e1⟩ := Dt (R.sat_good hs)
  rw [e1] at hs
  obtain ⟨h0, e2⟩ := Ae (R.sat_good hs)
  rw [e2] at hs
  have h0 := Nat.eq_of_beq_eq_true h0
  subst h0
  have g1 := Ad hx hT
  rw [hv] at g1
  obtain ⟨b, sq, tot, hφ, gx⟩ := D9 g1
  rcases O5 (R.sat_good hs) with ⟨hq, e3⟩ | ⟨p, since, seen, c, hq, e3⟩
  · rw [e3] at hs
    obtain ⟨hs0, hit⟩ := g.obj q _ b sq tot hq hφ
    subst hs0
    have hgo1:(getObj b).run P w = .ok (.mapIter none 0 #[] 0) w := by simp [getObj, Sem.run, hit]
    have hrun:(execOp a.eval o).run P w = .ok (.value (.tuple #[.bool false])) w := by
      simp only [execOp, ho, gx, Instr.next, Nat.zero_add, Sem.run_bind, hgo1, Result.andThen_ok]
      simp
    unfold Oper.wp
    rw [hrun]
    exact hK _ _ _ hs φ _ w (Fr.refl h φ n w) g (by simp only [As, By]; exact ⟨_, rfl, _, _, rfl, rfl, rfl⟩)
  · rw [e3] at hs
    obtain ⟨es, bs, clk, hp, e4⟩ := Fk (R.sat_good hs)
    rw [e4] at hs
    obtain ⟨h5, e5⟩ := Ae (R.sat_good hs)
    rw [e5] at hs
    obtain ⟨h6, e6⟩ := Ae (R.sat_good hs)
    rw [e6] at hs
    obtain ⟨c1, c2⟩ := Kt hs
    obtain ⟨bm, sm, tm, hφm, hs0, hit⟩ := g.obj q _ b sq tot hq hφ
    subst hs0
    obtain ⟨ents, m1, m2, m3⟩ := g.obj p _ bm sm tm hp hφm
    have hold:∀ x∈ents.toList, x.born<since := fun x hx => M3 h5 _ (by rw [←m3]; exact List.mem_map.2 ⟨x, hx, rfl⟩)
    have hlen:es.length=bs.length := by rw [←Fw m2, ←m3, List.length_map]
    have hcon:∀ k:Nat, seen.reverse.toArray.contains k=Ga k seen := fun k => by rw [Qd]; simp
    rcases run_next_at (P := P) w o.type b bm since c seen.reverse.toArray ents clk hit m1 hold (Aa.1 h6) with ⟨hz, hrun⟩ | ⟨e, he, w1, hal, hrun⟩
    · have hall:∀ k∈bs, Ga k seen=true := fun k hk => by
        rw [←m3] at hk
        obtain ⟨x, hx, rfl⟩ := List.mem_map.1 hk
        cases hm:Ga x.born seen with
        | true => rfl
        | false =>
          have:x∈leftOf ents seen.reverse.toArray := by
            unfold leftOf
            rw [Array.mem_filter]
            exact ⟨by simpa using hx, by rw [hcon, hm]; rfl⟩
          rw [Array.eq_empty_of_size_eq_zero hz] at this
          simp at this
      have hx:(execOp a.eval o).run P w = .ok (.value (.tuple #[.bool false])) w := by
        simp only [execOp, ho, gx, Nat.zero_add, Sem.run_bind, hrun, Result.andThen_ok]
        simp
      unfold Oper.wp
      rw [hx]
      exact hK _ _ _ (c1 hall hlen) φ _ w (Fr.refl h φ n w) g (by simp only [As, By]; exact ⟨_, rfl, _, _, rfl, rfl, rfl⟩)
    · have he':e∈ents.toList∧Ga e.born seen=false := by
        unfold leftOf at he
        have he := Array.mem_filter.1 (Array.mem_toList_iff.1 he)
        refine ⟨by simpa using he.1, ?_⟩
        have := he.2
        rw [hcon] at this
        simpa using this
      obtain ⟨i, hi⟩ := List.getElem?_of_mem he'.1
      have hil:i<es.length := by rw [←Fw m2]; exact (List.getElem?_eq_some_iff.1 hi).1
      obtain ⟨mm, hmm, hk1, hk2⟩ := KL m2 (List.getElem?_eq_getElem hil)
      rw [hi] at hmm; cases hmm
      have hb:bs[i]? = some e.born := by rw [←m3, List.getElem?_map, hi]; rfl
      have leaf := c2 i _ _ (List.getElem?_eq_getElem hil) hb he'.2
      unfold NG at leaf
      rw [BZ, B6] at leaf
      have g1:Gam ρ B h n φ w1 := by
        rcases hal with e | e
        · rw [e]; exact g
        · rw [e]; exact g.drew
      have f1:Fr h h φ φ n n w w1 := by
        rcases hal with e | e
        · rw [e]; exact Fr.refl h φ n _
        · rw [e]; exact Fr.drew
      have hw:setBlock w1 b (.mapIter (some bm) since (seen.reverse.toArray.push e.born) clk)=Da w1 b (.mapIter (some bm) since (e.born::seen).reverse.toArray clk) := by
        have:seen.reverse.toArray.push e.born=(e.born::seen).reverse.toArray := by simp
        rw [this]; rfl
      rw [hw] at hrun
      have hbl := (g1.blk q b 0 tot hφ).2
      have g2:Gam ρ B (Af q h (some (.it p since (e.born::seen) clk))) n φ (Da w1 b (.mapIter (some bm) since (e.born::seen).reverse.toArray clk)) :=
        g1.write (o := .it p since seen c) (o' := .it p since (e.born::seen) clk) hq hφ rfl rfl ⟨bm, sm, tm, hφm, rfl, DI hbl⟩
      have f2:Fr h (Af q h (some (.it p since (e.born::seen) clk))) φ φ n n w1 (Da w1 b (.mapIter (some bm) since (e.born::seen).reverse.toArray clk)) :=
        Fr.write (o := .it p since seen c) hq hφ
      have hx:(execOp a.eval o).run P w = .ok (.value (.tuple #[.bool true, e.key, e.val])) (Da w1 b (.mapIter (some bm) since (e.born::seen).reverse.toArray clk)) := by
        simp only [execOp, ho, gx, Nat.zero_add, Sem.run_bind, hrun, Result.andThen_ok]
        simp
      unfold Oper.wp
      rw [hx]
      exact hK _ _ _ leaf φ _ _ (Fr.trans f1 f2) g2 (by simp only [As, By]; exact ⟨_, rfl, _, _, rfl, rfl, _, _, rfl, hk1, _, _, rfl, hk2, rfl⟩)
end
end Go.Ev

namespace Go.Ev
set_option linter.unusedVariables false
def EI (r:R) (κ:KV):R := @R.rec (fun _ => R) (Fp "") (fun v h n => κ v h n) (fun w => .fail w) (fun _ _ a b => .both a b) r
/-- A round: its arguments are the box and what has come; it says true. -/
def WO (cf:DZ) (p:K4) (l:List V) (h:Heap) (n:K4) (κ:KV):R :=
  Bt p h fun o => @Option.rec Ob (fun _ => R) (.fail "") (fun o => @Ob.rec (fun _ => R) (Cb "") (Cb "") (Fp "") (.fail "")
    (fun f box => @List.rec V (fun _ => R) (.fail "") (fun x l _ => @List.rec V (fun _ => R)
      (BW p h none fun h => EI (cf (Bz f) [.oth .no, .ptr box 0, x] h n) fun v h n => BW p h (some (.lp f box)) fun h => κ v h n) (Cb "") l) l) o) o
def UD (cf:DZ) (v:V) (l:List V) (h:Heap) (n:K4) (κ:KV):R :=
  @V.rec (fun _ => R) (fun _ => Unit) (AG "") (AV "") (AG "") (DN "") (AG "") (AG "") (AV "") (AV "")
    (fun f caps _ => EH l caps fun l => EI (cf (Bz f) l h n) κ) (AG "")
    (fun o => @Ot.rec (fun _ => R) (.fail "") (AV "") (fun p => WO cf p l h n κ) (.fail "") (Cb "") (AG "") (.fail "") (AG "") (Fp "") (Fp "") (Cb "") (AG "") (AG "") (Cb "") (AV "") o) () (fun _ _ _ _ => ()) v
abbrev X4 (cf:DZ) (sp:Sp) (ε:Ig) (h:Heap) (n:K4) (κ:KV):R :=
  @Sp.rec (fun _ => R) (fun x => ε x fun v => UC v h n κ) (fun x => ε x fun v => Ur v h n κ) (fun x => ε x fun v => QL v h n κ)
    (fun f l => Gb ε l fun l => EI (cf (Bz f) l h n) κ) (fun x l => ε x fun v => Gb ε l fun l => UD cf v l h n κ) sp
section
variable {P:Program} {ρ:Env} {B N:Nat}
def MU:Option Nat->Fence
  | none => Fence.wide
  | some l => Fence.wide.inRound l
theorem Tf (l:Option Nat) (f:FuncId):(MU l).fn f := by cases l <;> trivial
theorem Ri (l:Option Nat):(MU l).depth=none := by cases l <;> rfl
theorem OP {l:Option Nat} {n:Nat} {f:FuncId} {args:Array Value} {w:World} {R:Ending->World->Prop} (h:Calls P f args w R):CallsIn (MU l) n P f args w R := by
  cases l with
  | none => exact callsIn_wide.2 h
  | some l => exact (show CallsIn Fence.wide n P f args w R from callsIn_wide.2 h)
theorem UT {l:Option Nat} {n:Nat} {o:Oper} {a:Act} {K K':Act->World->Prop} {Q:Exit->Act->World->Prop} (hK:∀ a w, K a w->K' a w):∀ {r:Result Next}, o.upon P a K Q r->o.uponIn (MU l) n P a K' Q r := by
  have hd:(MU l).depth.isSome=true->1≤n := fun h => by rw [Ri] at h; cases h
  intro r h
  cases r with
  | ok x w =>
    cases x with
    | value v => exact hK _ _ h
    | skip => exact hK _ _ h
    | defer d => exact hK _ _ h
    | enter f args =>
      refine ⟨hd, (OP (show Calls P f args w _ from h)).mono fun e w' he => ?_⟩
      cases e with
      | returned v => exact hK _ _ he
      | panicked c => exact he
      | outgrown => exact he
    | row row args =>
      refine ⟨hd, fun c cs _ => ?_⟩
      obtain ⟨v, w', hr, hs⟩ := (show Rows P row args w _ from h) c cs
      refine ⟨v, w', hK _ _ hr, ?_⟩
      cases l with
      | none => exact stepsIn_wide.2 hs
      | some l => exact (show StepsIn (Machine.fenced P Fence.wide) P _ _ from stepsIn_wide.2 hs)
    | _ => exact h.elim
  | halt x w => cases x <;> first | exact h | exact h.elim
theorem QQ {l:Option Nat} {n:Nat} {o:Oper} {a:Act} {w:World} {K K':Act->World->Prop} {Q:Exit->Act->World->Prop} (hd:l=none ∨ ∀ c, o.op ≠ .defer c) (hK:∀ a w, K a w->K' a w) (h:o.wp P a w K Q):o.wpIn (MU l) n P a w K' Q := by
  refine ⟨fun f _ => Tf l f, ?_⟩
  have e:o.semAt (MU l).round a.eval=execOp a.eval o := by
    cases l with
    | none => rfl
    | some l =>
      rcases hd with h | h
      · cases h
      · exact Oper.semAt_eq _ _ _ h
  rw [e]
  exact UT hK h
theorem E7 {l:Option Nat} {n:Nat} {ops:Array Oper} {Q:Exit->Act->World->Prop} {r:List Oper}:∀ {os:List Oper} {a:Act} {w:World}, (l=none ∨ ∀ o∈os, ∀ c, o.op ≠ .defer c) →
    Fu P ops Q (wpListIn (MU l) n P ops Q r) os a w->wpListIn (MU l) n P ops Q (os++r) a w
  | [], _, _, _, h => h
  | o::os, a, w, hd, h => by
    show wpListIn (MU l) n P ops Q (o::(os++r)) a w
    simp only [wpListIn]
    unfold Fu at h
    have hd1:l=none ∨ ∀ c, o.op ≠ .defer c := hd.imp id fun h => h o (List.mem_cons_self ..)
    have hd2:l=none ∨ ∀ o∈os, ∀ c, o.op ≠ .defer c := hd.imp id fun h o ho => h o (List.mem_cons_of_mem _ ho)
    split
    · rw [if_pos (by assumption)] at h
      exact QQ hd1 (fun a w h => E7 hd2 h) h
    · rw [if_neg (by assumption)] at h
      exact ⟨fun f _ => Tf l f, E7 hd2 h⟩
/-- A call's ways. -/
def IT (P:Program) (ρ:Env) (B:Nat) (cf:CF):Prop :=
  ∀ f args h n (Φ:R->Prop), (cf f args h n).sat Φ->∀ φ w (xs:Array Value), Gam ρ B h n φ w->By ρ φ args xs.toList →
    Le P f xs w fun x w' => ∃ v h1 n1 φ', Φ (.rv v h1 n1)∧Fr h h1 φ φ' n n1 w w'∧Gam ρ B h1 n1 φ' w'∧As ρ φ' v x
theorem IT.ok {cf:CF} (H:IT P ρ B cf):E9 P ρ B cf := fun f args h n v h1 n1 hr φ w xs g hx o a K Q hK => by
  refine H f args h n (fun r => r = .rv v h1 n1) (by rw [hr]; exact rfl) φ w xs g hx o a K Q fun x w' ⟨v', h', n', φ', e, f1, g1, r1⟩ => hK x w' ?_
  cases e
  exact ⟨φ', f1, g1, r1⟩
/-- The record of a loop over a function, between two rounds. -/
def FG (A:ApC) (f:FuncId) (tmps:Array Value) (D:Nat):Loop := { state := .ready, pending := none, fn := f, tmps, params := #[A.par], assign := A.asg, body := A.bod, defers := D }
/-- A round is sound: its record is none of the objects. -/
def Iu (P:Program) (ρ:Env) (B:Nat) (cf:CF):Prop :=
  ∀ f A fn, ρ.ap f=some A->∀ box x h n (Φ:R->Prop), (cf f [.oth .no, .ptr box 0, x] h n).sat Φ->∀ φ w (tmps:Array Value) X l D, Gam ρ B h n φ w->w.heap[l]? = some (.loop (FG A fn tmps D)) →
    (∀ q s tot, φ q=some (l, s, tot)->A8 q h=none)->tmps.size=A.ntm->As ρ φ (.ptr box 0) (tmps.getD A.box undef)->As ρ φ x X →
    RoundIn Fence.wide 0 P l fn (tmps.setIfInBounds A.par X) A.asg A.bod w fun e w' => e = .returned (.bool true) ∧
      ∃ v h1 n1 φ', v = .bool true∧Φ (.rv v h1 n1)∧Fr h h1 φ φ' n n1 w w'∧Gam ρ B h1 n1 φ' w'
/-- One step, inside the fence. -/
def Xc (P:Program) (ρ:Env) (B N:Nat) (o:Oper) (t:Regs) (h:Heap) (n:K4) (f:KV->R):Prop :=
  ∀ (κ:KV) (Φ:R->Prop), (f κ).sat Φ->∀ (φ:AT) (a:Act) (w:World), TR ρ N φ t a->Gam ρ B h n φ w->∀ (K:Act->World->Prop) (Q:Exit->Act->World->Prop),
    (∀ v h1 n1, (κ v h1 n1).sat Φ->∀ φ' x w', Fr h h1 φ φ' n n1 w w'->Gam ρ B h1 n1 φ' w'->As ρ φ' v x->K (a.put o.dst x) w')->o.wpIn (MU none) 0 P a w K Q
section
variable {o:Oper} {t:Regs} {h:Heap} {n:K4} {cf:CF} {cf2:DZ}
theorem Te.in_ {f:KV->R} (H:Te P ρ B N o t h n f):Xc P ρ B N o t h n f := fun κ Φ hs φ a w hT g K Q hK => QQ (.inl rfl) (fun _ _ h => h) (H κ Φ hs φ a w hT g K Q hK)
/-- What is asked of a call's ways. -/
def W2 (κ:KV) (Φ:R->Prop):R->Prop
  | .rv v h n => (κ v h n).sat Φ
  | _ => False
theorem Ej {κ:KV} {Φ:R->Prop}:∀ {r:R}, (EI r κ).sat Φ->r.sat (W2 κ Φ)
  | .ok _ _ _ _, h => h.elim
  | .rv _ _ _, h => h
  | .fail _, h => h.elim
  | .both a b, h => ⟨Ej (r := a) h.1, Ej (r := b) h.2⟩
theorem X5 {ct:Call} {f:FuncId} {args:List Opd} (hcf:IT P ρ B cf) (h2:∀ f, cf2 (Bz f)=cf f) (ho:o.op = .call ct) (hc:ct.callee = .value (.func f)) (ha:Bw N ct.args.toList=some args) :
    Te P ρ B N o t h n fun κ => EI (cf2 (Bz f) (args.map (ev · t)) h n) κ := by
  intro κ Φ hs φ a w hT g K Q hK
  have hs := Ej hs
  rw [h2] at hs
  have := hcf f _ h n _ hs φ w (ct.args.map a.eval) g (by rw [Array.toList_map]; exact F0 ha hT) o a K Q (fun x w' ⟨v, h1, n1, φ', hΦ, f1, g1, r1⟩ => hK v h1 n1 hΦ φ' x w' f1 g1 r1)
  unfold Oper.wp
  have e3:(execOp a.eval o).run P w=(callFunc f (ct.args.map a.eval)).run P w := by
    simp [execOp, ho, resolve, hc, Act.eval, Deferred.ofValue, invoke]
  rw [e3]; exact this
/-- What was put aside is laid back. -/
theorem Gam.back {h1:Heap} {n1 p:K4} {φ φ1:AT} {w w1:World} {ob:Ob} {b s tot:Nat} (g:Gam ρ B h n φ w) (hp:A8 p h=some ob) (hφ:φ p=some (b, s, tot)) (hsup:Jh ob=false) (hprev:Cf ob=none)
    (f1:Fr (Af p h none) h1 φ φ1 n n1 w w1) (g1:Gam ρ B h1 n1 φ1 w1) (hw:w1.heap[b]? = w.heap[b]?) :
    Gam ρ B (Af p h1 (some ob)) n1 φ1 w1∧Fr h (Af p h1 (some ob)) φ φ1 n n1 w w1 := by
  have out:∀ q o' s' tot', p≠q->A8 q h1=some o'->φ1 q=some (b, s', tot')->False := fun q o' s' tot' hne hq hx => by
    have key:∀ r o2 sr tr, p≠r->A8 r h=some o2->φ r=some (b, sr, tr)->False := fun r o2 sr tr hpr hr hxr => by
      rcases g.sep p r ob o2 b s tot sr tr hpr hp hr hφ hxr with e | e
      · rw [hprev] at e; cases e
      · have := g.sup r p o2 ob b sr tr s tot hr e hp hxr hφ
        rw [hsup] at this; cases this
    rcases f1.fresh q b s' tot' hx with e | e | ⟨r, sr, tr, hr, hne'⟩
    · cases hq':A8 q h with
      | none =>
        have := f1.dm q (by rw [e]; simp) (by rw [A7 _ _ hne]; exact hq')
        rw [this] at hq; cases hq
      | some o2 => exact key q o2 s' tot' hne hq' e
    · have := (g.blk p b s tot hφ).2; omega
    · by_cases e:p=r
      · subst e; exact hne' (A6 _ _ _)
      · rw [A7 _ _ e] at hne'
        cases hr':A8 r h with
        | none => exact hne' hr'
        | some o2 => exact key r o2 sr tr e hr' hr
  have hφ1 := f1.ext _ _ hφ
  refine ⟨⟨g1.base, g1.dom, g1.blk, fun q o' b' s' tot' hq hx => ?_, fun q r o1 o2 b' s1 t1 s2 t2 hne hq hr hx hy => ?_, fun q r o1 o2 b' s1 t1 s2 t2 hq hpr hr hx hy => ?_, g1.glob⟩,
    ⟨f1.ext, f1.new, f1.nn, f1.os, f1.tape, f1.out, f1.size, fun b' hb hn => f1.old b' hb fun q s' tot' hx => ?_, fun q b' s' tot' hx => ?_, fun q hq hn => ?_⟩⟩
  · rcases BA hq with ⟨rfl, e⟩ | ⟨hne, hq⟩
    · cases e
      rw [hφ1] at hx; cases hx
      exact Cp hw (E6 f1.ext (g.obj p _ _ _ _ hp hφ))
    · exact g1.obj q o' b' s' tot' hq hx
  · rcases BA hq with ⟨rfl, e⟩ | ⟨hq', hq⟩
    · rw [hφ1] at hx; cases hx
      rcases BA hr with ⟨e', _⟩ | ⟨hr', hr⟩
      · exact absurd e' hne
      · exact (out r o2 s2 t2 hr' hr hy).elim
    · rcases BA hr with ⟨rfl, e⟩ | ⟨hr', hr⟩
      · rw [hφ1] at hy; cases hy
        exact (out q o1 s1 t1 hq' hq hx).elim
      · exact g1.sep q r o1 o2 b' s1 t1 s2 t2 hne hq hr hx hy
  · rcases BA hq with ⟨rfl, e⟩ | ⟨hq', hq⟩
    · cases e; rw [hprev] at hpr; cases hpr
    · rcases BA hr with ⟨rfl, e⟩ | ⟨hr', hr⟩
      · rw [hφ1] at hy; cases hy
        exact (out q o1 s1 t1 hq' hq hx).elim
      · exact g1.sup q r o1 o2 b' s1 t1 s2 t2 hq hpr hr hx hy
  · by_cases e:p=q
    · subst e; exact A6 _ _ _
    · rw [A7 _ _ e]; exact hn q s' tot' hx
  · rcases f1.fresh q b' s' tot' hx with e | e | ⟨r, sr, tr, hr, hne'⟩
    · exact .inl e
    · exact .inr (.inl e)
    · refine .inr (.inr ⟨r, sr, tr, hr, fun hn => hne' ?_⟩)
      by_cases e:p=r
      · subst e; exact A6 _ _ _
      · rw [A7 _ _ e]; exact hn
  · have hne:p≠q := fun e => by subst e; rw [hp] at hn; cases hn
    rw [A7 _ _ hne]
    exact f1.dm q hq (by rw [A7 _ _ hne]; exact hn)
/-- An object is put aside. -/
theorem Gam.aside {p:K4} {φ:AT} {w:World} (g:Gam ρ B h n φ w):Gam ρ B (Af p h none) n φ w := by
  have get:∀ q o, A8 q (Af p h none)=some o->A8 q h=some o := fun q o hq => by
    rcases BA hq with ⟨_, e⟩ | ⟨_, hq⟩
    · cases e
    · exact hq
  exact ⟨g.base, g.dom, g.blk, fun q o b s t hq hx => g.obj q o b s t (get q o hq) hx, fun q r o o' b s t s' t' hne hq hr hx hy => g.sep q r o o' b s t s' t' hne (get q o hq) (get r o' hr) hx hy,
    fun q r o o' b s t s' t' hq hpr hr hx hy => g.sup q r o o' b s t s' t' (get q o hq) hpr (get r o' hr) hx hy, g.glob⟩
theorem X3 {ct:Call} {x:Operand} {x':Opd} {args:List Opd} (hcf:IT P ρ B cf) (hR:Iu P ρ B cf) (h2:∀ f, cf2 (Bz f)=cf f) (ho:o.op = .call ct) (hc:ct.callee = .value x) (hx:AH N x=some x') (ha:Bw N ct.args.toList=some args) :
    Xc P ρ B N o t h n fun κ => UD cf2 (ev x' t) (args.map (ev · t)) h n κ := by
  intro κ Φ hs φ a w hT g K Q hK
  have g1 := Ad hx hT
  have gargs := F0 ha hT
  cases hv:ev x' t with
  | fn f caps =>
    rw [hv] at g1 hs
    have hs:(EH (args.map (ev · t)) caps fun l => EI (cf2 (Bz f) l h n) κ).sat Φ := hs
    rw [DA] at hs
    have hs := Ej hs
    rw [h2] at hs
    obtain ⟨cs, gx, hcs⟩ := Jc g1
    refine QQ (.inl rfl) (fun _ _ h => h) ?_
    have := hcf f _ h n _ hs φ w (ct.args.map a.eval++cs) g (by rw [Array.toList_append, Array.toList_map]; exact FI gargs hcs) o a K Q (fun x w' ⟨v, h1, n1, φ', hΦ, f1, g1, r1⟩ => hK v h1 n1 hΦ φ' x w' f1 g1 r1)
    unfold Oper.wp
    have e3:(execOp a.eval o).run P w=(callFunc f (ct.args.map a.eval++cs)).run P w := by
      simp [execOp, ho, resolve, hc, gx, Deferred.ofValue, invoke]
    rw [e3]; exact this
  | oth ot =>
    rw [hv] at g1 hs
    cases ot with
    | any => exact hs.elim
    | sym i => exact hs.elim
    | no => exact hs.elim
    | iv k lo hi => exact hs.elim
    | os lo hi => exact hs.elim
    | bl => exact hs.elim
    | rs m j => exact hs.elim
    | ss lo hi n c => exact hs.elim
    | ro i lo hi z => exact hs.elim
    | ap i j m => exact hs.elim
    | sy k i => exact hs.elim
    | rb n c => exact hs.elim
    | rx l m z => exact hs.elim
    | rp l => exact hs.elim
    | yl p =>
      have hs:(WO cf2 p (args.map (ev · t)) h n κ).sat Φ := hs
      unfold WO at hs
      rw [Bm] at hs
      cases hob:A8 p h with
      | none => rw [hob] at hs; exact hs.elim
      | some ob =>
        rw [hob] at hs
        cases ob with
        | c _ _ _ => exact hs.elim
        | m _ _ _ => exact hs.elim
        | it _ _ _ _ => exact hs.elim
        | it0 => exact hs.elim
        | lp f box =>
          generalize hal:args.map (ev · t)=al at hs gargs
          match al, hs, gargs, hal with
          | [], hs, _, _ => exact hs.elim
          | _::_::_, hs, _, _ => exact hs.elim
          | [y], hs, gargs, hal =>
            have hs:(BW p h none fun h => EI (cf2 (Bz f) [.oth .no, .ptr box 0, y] h n) fun v h n => BW p h (some (.lp f box)) fun h => κ v h n).sat Φ := hs
            rw [BZ, B6] at hs
            have hs := Ej hs
            rw [h2] at hs
            have g1:∃ b s tot, φ p=some (b, s, tot)∧a.eval x = .func (.yield b) #[] #[] := by simpa only [As] using g1
            obtain ⟨b, s, tot, hφ, gx⟩ := g1
            obtain ⟨hs0, A, fn, tmps, D, hA, hrec, hsz, hbox⟩ := g.obj p _ b s tot hob hφ
            subst hs0
            obtain ⟨X, l0, hX, rX, h0⟩ := Aw.1 gargs
            have h0 := AF.1 h0
            subst h0
            have hargs:ct.args.map a.eval = #[X] := by
              have:(ct.args.map a.eval).toList=[X] := by rw [Array.toList_map]; exact hX
              cases hh:ct.args.map a.eval with
              | mk l => rw [hh] at this; simp at this; rw [this]
            have unc:∀ q s tot, φ q=some (b, s, tot)->A8 q (Af p h none)=none := fun q s' tot' hq => by
              by_cases e:p=q
              · subst e; exact A6 _ _ _
              · rw [A7 _ _ e]
                cases hq':A8 q h with
                | none => rfl
                | some o2 =>
                  rcases g.sep p q _ o2 b 0 tot s' tot' e hob hq' hφ hq with e | e
                  · cases e
                  · have := g.sup q p o2 _ b s' tot' 0 tot hq' e hob hq hφ; cases this
            have rnd := hR f A fn hA box y _ n _ hs φ w tmps X b D g.aside hrec unc hsz hbox rX
            refine ⟨fun f _ => trivial, ?_⟩
            have e3:(o.semAt (MU none).round a.eval).run P w = .ok (.round b fn (tmps.setIfInBounds A.par X) A.asg A.bod) w := by
              have e4:(Instr.yield b #[X]).run P w = .ok (.round b fn (tmps.setIfInBounds A.par X) A.asg A.bod) w := by
                have := run_yield (P := P) (args := #[X]) hrec rfl
                simpa [FG] using this
              show (execOp a.eval o).run P w=_
              simp [execOp, ho, resolve, hc, gx, Deferred.ofValue, invoke, hargs, e4]
            rw [e3]
            refine ⟨fun h => (by cases h), rnd.mono fun e w' ⟨he, v, h1, n1, φ', hv, hΦ, f1, g1⟩ => ?_⟩
            subst he
            have hΦ:(BW p h1 (some (.lp f box)) fun h => κ v h n1).sat Φ := hΦ
            rw [BZ, B6] at hΦ
            subst hv
            have hbl := (g.blk p b 0 tot hφ).2
            have hw':w'.heap[b]? = w.heap[b]? := f1.old b hbl unc
            obtain ⟨g2, f2⟩ := g.back hob hφ rfl rfl f1 g1 hw'
            exact hK _ _ _ hΦ φ' (.bool true) w' f2 g2 (by simp only [As])
  | _ => rw [hv] at hs; exact hs.elim
end
end
end Go.Ev

namespace Go.Ev
set_option linter.unusedVariables false
abbrev N5 := GU->S->Heap->K4->R
abbrev r0:N5 := fun _ t h n => .ok .nrm t h n
/-- It comes to its end by no other way than an exit. -/
def AC.ends (c:AC):Bool := @AC.rec (fun _ => Bool) false (fun _ _ x y => or x y) (fun _ => false) (fun _ _ => false) (fun _ _ _ x y => and x y) (fun _ _ _ => false) (fun _ _ => true) (fun _ => true) true (fun _ => true) (fun _ _ _ _ => false) c
def Br (r:R) (κ:S->Heap->K4->R):R :=
  @R.rec (fun _ => R) (fun e t h n => @Ex.rec (fun _ => R) (κ t h n) (fun id => .ok (.exit id) t h n) (.ok .ret t h n) e) (Cb "") (fun w => .fail w) (fun _ _ a b => .both a b) r
def Aj (id:Nat) (r:R) (κ:S->Heap->K4->R):R :=
  @R.rec (fun _ => R) (fun e t h n => @Ex.rec (fun _ => R) (κ t h n) (fun j => br (Nat.beq j id) (κ t h n) (.ok (.exit j) t h n)) (.ok .ret t h n) e) (Cb "") (fun w => .fail w) (fun _ _ a b => .both a b) r
def Bd (body:S->Heap->K4->R):S->Heap->K4->R := Jy body 1000000000
def M8 (n:K4) (κ:K4->K4->R):R := n.nx16 fun b => b.nx16 fun n => κ b n
abbrev SC (al:Bool) (n:K4) (κ:K4->K4->R):R := We al (M8 n κ) (κ n n)
abbrev Sw (ea eb:Bool) (v:V) (a b:N5->N5) (rest:N5) (env:GU) (t:S) (h:Heap) (n:K4):R :=
  We ea (AY v (a r0 env t h n) (b rest env t h n)) (We eb (AY v (a rest env t h n) (b r0 env t h n)) (Br (AY v (a r0 env t h n) (b r0 env t h n)) fun t h n => rest [] t h n))
abbrev HI (sm:SM) (cf:DZ) (c:AC):N5->N5 :=
  @AC.rec (fun _ => N5->N5) (fun rest => rest) (fun _ _ a b rest => a (b rest)) (fun l rest env t h n => Dy sm cf l env t h n rest)
    (fun al l rest env t h n => SC al n fun b n => DT sm cf b l env t h h n fun env t _ h n => rest env t h n)
    (fun c x y a b rest env t h n => Bi sm env t c fun v => Sw x.ends y.ends v a b rest env t h n)
    (fun id _ b rest env t h n => Aj id (b r0 env t h n) fun t h n => rest [] t h n)
    (fun _ b _ _ t h n => Bd (fun t h n => b r0 [] t h n) t h n) (fun id _ _ t h n => .ok (.exit id) t h n) (fun _ _ t h n => .ok .ret t h n) (DN "")
    (fun pre sp d post rest env t h n => Dy sm cf pre env t h n fun env t h n => X4 cf sp (Bi sm env t) h n fun v h n => Dp sm d t v fun t => Dy sm cf post (Ca d v env) t h n rest) c
def EJ (sm:SM) (dom:List K2) (c:Opd):Bool := @Opd.rec (fun _ => Bool) (fun p => E1 sm dom p) (fun _ => true) c
def Qg (sm:SM) (dom:List K2) (sp:Sp):Bool := @Sp.rec (fun _ => Bool) (fun x => EJ sm dom x) (fun x => EJ sm dom x) (fun x => EJ sm dom x) (fun _ l => l.all (EJ sm dom)) (fun x l => EJ sm dom x&&l.all (EJ sm dom)) sp
/-- Are all registers that it reads kept, or told? -/
def JU (sm:SM) (c:AC):(List K2->Bool)->List K2->Bool :=
  @AC.rec (fun _ => (List K2->Bool)->List K2->Bool) (fun r => r) (fun _ _ a b r => a (b r)) (fun l r dom => GQ sm l dom&&r (D4 l dom))
    (fun al l r dom => Iw sm l dom&&r (Iy l dom))
    (fun c x y a b r dom => EJ sm dom c&&br x.ends (a (fun _ => true) dom&&b r dom) (br y.ends (a r dom&&b (fun _ => true) dom) (a (fun _ => true) dom&&(b (fun _ => true) dom&&r []))))
    (fun id _ b r dom => b (fun _ => true) dom&&r []) (fun _ b _ _ => b (fun _ => true) []) (fun _ _ _ => true) (fun _ _ => true) (fun _ _ _ => true)
    (fun pre sp d post r dom => GQ sm pre dom&&(Qg sm (D4 pre dom) sp&&(GQ sm post (Gx d (D4 pre dom))&&r (D4 post (Gx d (D4 pre dom)))))) c
section
variable {P:Program} {ρ:Env} {B N:Nat} {cf:CF} {cf2:DZ} {sm:SM}
/-- What is asked behind a piece of code whose ways are joined. -/
def Sb (κ:S->Heap->K4->R) (Φ:R->Prop):R->Prop
  | .ok .nrm t h n => (κ t h n).sat Φ
  | .ok e t h n => Φ (.ok e t h n)
  | _ => False
theorem Hq {κ:S->Heap->K4->R} {Φ:R->Prop}:∀ {r:R}, (Br r κ).sat Φ->r.sat (Sb κ Φ)
  | .ok e t h n, hs => by cases e <;> exact hs
  | .rv _ _ _, hs => hs.elim
  | .fail _, hs => hs.elim
  | .both a b, hs => ⟨Hq (r := a) hs.1, Hq (r := b) hs.2⟩
theorem UY {body:S->Heap->K4->R} {k:Nat} {Φ:R->Prop} {t:S} {h:Heap} {n:K4} (hs:(Jy body (k+1) t h n).sat Φ):(body t h n).sat (Sb (Jy body k) Φ) := by
  have e:Jy body (k+1) t h n=@R.rec (fun _ => R) (fun e t h n => @Ex.rec (fun _ => R) (Jy body k t h n) (fun id => .ok (.exit id) t h n) (.ok .ret t h n) e) (Cb "") (fun w => .fail w) (fun _ _ a b => .both a b) (body t h n) := rfl
  rw [e] at hs
  generalize body t h n=r at hs
  clear e
  induction r with
  | ok e t h n => cases e <;> exact hs
  | rv _ _ _ => exact hs.elim
  | fail _ => exact hs.elim
  | both a b iha ihb => exact ⟨iha hs.1, ihb hs.2⟩
def XD (id:Nat) (κ:S->Heap->K4->R) (Φ:R->Prop):R->Prop
  | .ok .nrm t h n => (κ t h n).sat Φ
  | .ok (.exit j) t h n => (j=id∧(κ t h n).sat Φ)∨(j≠id∧Φ (.ok (.exit j) t h n))
  | .ok .ret t h n => Φ (.ok .ret t h n)
  | _ => False
theorem I2 {id:Nat} {κ:S->Heap->K4->R} {Φ:R->Prop}:∀ {r:R}, (Aj id r κ).sat Φ->r.sat (XD id κ Φ)
  | .ok e t h n, hs => by
    cases e with
    | nrm => exact hs
    | ret => exact hs
    | exit j =>
      have hs:(br (Nat.beq j id) (κ t h n) (R.ok (.exit j) t h n)).sat Φ := hs
      cases hj:Nat.beq j id with
      | true => rw [hj] at hs; exact .inl ⟨Nat.eq_of_beq_eq_true hj, hs⟩
      | false => rw [hj] at hs; exact .inr ⟨fun e => by subst e; simp at hj, hs⟩
  | .rv _ _ _, hs => hs.elim
  | .fail _, hs => hs.elim
  | .both a b, hs => ⟨I2 (r := a) hs.1, I2 (r := b) hs.2⟩
/-- What code comes to whose rest is nothing. -/
def Ul (P:Program) (ρ:Env) (B N:Nat) (sm:SM) (C:Code) (t:Regs) (h:Heap) (n:K4) (Φ:R->Prop):Prop :=
  ∀ φ a w, TR ρ N φ t a->Gam ρ B h n φ w->∀ (Q:Exit->Act->World->Prop),
    (∀ e t1 h1 n1, Φ (.ok e t1 h1 n1)->∀ φ' a' w' tf, Fr h h1 φ φ' n n1 w w'->Gam ρ B h1 n1 φ' w'->TR ρ N φ' tf a'->(∀ p s, CJ p sm=some s->S.get s t1=Bg p tf)->Q (PA e) a' w')->C.wp P Q a w
def S4 (P:Program) (ρ:Env) (B N:Nat) (sm:SM) (cf2:DZ) (C:Code):Prop :=
  ∀ (rest:N5) (rOk:List K2->Bool) (dom:List K2) (env:GU) (t:Regs) (t':S) (h:Heap) (n:K4) (Φ:R->Prop),
    JU sm (B8 P N C) rOk dom=true->RI sm dom env t t'->(HI sm cf2 (B8 P N C) rest env t' h n).sat Φ →
    ∀ φ a w, TR ρ N φ t a->Gam ρ B h n φ w->∀ (Q:Exit->Act->World->Prop),
      (∀ e t1 h1 n1, Φ (.ok e t1 h1 n1)->e ≠ .nrm->∀ φ' a' w' tf, Fr h h1 φ φ' n n1 w w'->Gam ρ B h1 n1 φ' w'->TR ρ N φ' tf a'->(∀ p s, CJ p sm=some s->S.get s t1=Bg p tf)->Q (PA e) a' w') →
      ((B8 P N C).ends=false->∀ dom2 env2 t2 t2' h2 n2, rOk dom2=true->RI sm dom2 env2 t2 t2'->(rest env2 t2' h2 n2).sat Φ->∀ φ2 a2 w2, Fr h h2 φ φ2 n n2 w w2->Gam ρ B h2 n2 φ2 w2->TR ρ N φ2 t2 a2->Q .normal a2 w2) →
      C.wp P Q a w
theorem S4.join {C:Code} (H:S4 P ρ B N sm cf2 C) {dom:List K2} {env:GU} {t:Regs} {t':S} {h:Heap} {n:K4} {Φ:R->Prop} (hok:JU sm (B8 P N C) (fun _ => true) dom=true) (ri:RI sm dom env t t')
    (hx:(HI sm cf2 (B8 P N C) r0 env t' h n).sat Φ):Ul P ρ B N sm C t h n Φ := by
  intro φ a w hT g Q hQ
  refine H r0 _ dom env t t' h n Φ hok ri hx φ a w hT g Q (fun e t1 h1 n1 hΦ _ φ' a' w' tf f1 g1 T1 hk => hQ e t1 h1 n1 hΦ φ' a' w' tf f1 g1 T1 hk) fun _ dom2 env2 t2 t2' h2 n2 _ ri2 hr φ2 a2 w2 f2 g2 T2 => ?_
  have hr:Φ (R.ok .nrm t2' h2 n2) := hr
  exact hQ _ _ _ _ hr φ2 a2 w2 t2 f2 g2 T2 ri2.keep
theorem Vj {o:Oper} {d:Option K2} (h:WQ N o=some d):Q1 N o.dst d := by
  unfold WQ at h
  cases hd:o.dst with
  | none => rw [hd] at h; cases h; trivial
  | some s =>
    rw [hd] at h
    obtain ⟨p, hp, rfl⟩ := Ak h
    exact DC hp
theorem LW {ops:Array Oper}:∀ {l:List Oper} {pre:List AOp} {sp:Sp} {d:Option K2} {post:List AOp}, P1 P N ops l=some (pre, sp, d, post) →
    ∃ l1 o l2, l=l1++o::l2∧HM P N ops l1=some pre∧ZB P N o=some sp∧o.guard=none∧Q1 N o.dst d∧HM P N ops l2=some post
  | [], pre, sp, d, post, h => by cases h
  | o::l, pre, sp, d, post, h => by
    unfold P1 at h
    split at h
    · rename_i sp' hsp
      split at h
      · rename_i d' post' hg hd hp
        cases h
        exact ⟨[], o, l, rfl, rfl, hsp, hg, Vj hd, hp⟩
      · cases h
    · split at h
      · cases h
      · rename_i r hr
        split at h
        · rename_i x hx
          obtain ⟨pre', sp', d', post'⟩ := r
          cases h
          obtain ⟨l1, o', l2, rfl, h1, h2, h3, h4, h5⟩ := LW hr
          refine ⟨o::l1, o', l2, rfl, ?_, h2, h3, h4, h5⟩
          simp only [HM, hx, h1]
        · cases h
/-- The kinds of maps that are ranged over are told by the program's types. -/
theorem Y5 {cf:CF} {cf2:DZ} (hcf:IT P ρ B cf) (hR:Iu P ρ B cf) (h2:∀ f, cf2 (Bz f)=cf f) {o:Oper} {sp:Sp} (hc:ZB P N o=some sp) {t:Regs} {h:Heap} {n:K4}:Xc P ρ B N o t h n (X4 cf2 sp (fun x κ => κ (ev x t)) h n) := by
  have tl:∀ (l:List Opd) (κ:List V->R), Gb (fun x κ => κ (ev x t)) l κ=κ (l.map (ev · t)) := fun l κ => Gn (fun x _ κ => rfl)
  unfold ZB at hc
  split at hc
  · rename_i ty x ho
    split at hc
    · rename_i kt e ht
      obtain ⟨x', hx, rfl⟩ := Ak hc
      exact (Rr ho hx ht).sp.in_
    · cases hc
  · rename_i x s ho
    split at hc
    · cases hc
    · rename_i hs
      obtain ⟨x', hx, rfl⟩ := Ak hc
      have:s=false := by simpa using hs
      subst this
      exact (X9 ho hx).in_
  · rename_i x ho
    obtain ⟨x', hx, rfl⟩ := Ak hc
    exact (RT ho hx).sp.in_
  · rename_i ct ho
    split at hc
    · rename_i f hcal
      split at hc
      · obtain ⟨l, hl, rfl⟩ := Ak hc
        have e:X4 cf2 (.tcl f l) (fun x κ => κ (ev x t)) h n=fun κ => EI (cf2 (Bz f) (l.map (ev · t)) h n) κ := by
          funext κ
          exact tl l _
        rw [e]
        exact (X5 hcf h2 ho hcal hl).in_
      · cases hc
    · rename_i s hcal
      split at hc
      · rename_i x l hx hl
        cases hc
        have e:X4 cf2 (.dcl x l) (fun x κ => κ (ev x t)) h n=fun κ => UD cf2 (ev x t) (l.map (ev · t)) h n κ := by
          funext κ
          exact tl l _
        rw [e]
        exact X3 hcf hR h2 ho hcal hx hl
      · cases hc
    · cases hc
  · cases hc
theorem Xd (hρ:Bo ρ) (hm:P.follows .mixedOrders=true) (hct:IT P ρ B cf) (hR:Iu P ρ B cf) (h2:∀ f, cf2 (Bz f)=cf f):∀ C:Code, S4 P ρ B N sm cf2 C := by
  have hcf := hct.ok
  intro C
  induction C with
  | skip => intro rest rOk dom env t t' h n Φ hok ri hx φ a w hT g Q hex hre; exact wp_skip (hre rfl dom env t t' h n hok ri hx φ a w (Fr.refl h φ n w) g hT)
  | label l => intro rest rOk dom env t t' h n Φ hok ri hx φ a w hT g Q hex hre; exact wp_label (hre rfl dom env t t' h n hok ri hx φ a w (Fr.refl h φ n w) g hT)
  | exit id =>
    intro rest rOk dom env t t' h n Φ hok ri hx φ a w hT g Q hex hre
    exact wp_exit (hex _ _ _ _ hx (fun h => by cases h) φ a w t (Fr.refl h φ n w) g hT ri.keep)
  | ret =>
    intro rest rOk dom env t t' h n Φ hok ri hx φ a w hT g Q hex hre
    exact wp_ret (hex _ _ _ _ hx (fun h => by cases h) φ a w t (Fr.refl h φ n w) g hT ri.keep)
  | region id ops draw =>
    intro rest rOk dom env t t' h n Φ hok ri hx φ a w hT g Q hex hre
    cases draw with
    | true =>
      have hok:JU sm (CC P N ops true) rOk dom=true := hok
      have hx:(HI sm cf2 (CC P N ops true) rest env t' h n).sat Φ := hx
      have hre:(CC P N ops true).ends=false->_ := hre
      unfold CC at hok hx hre
      split at hx
      · exact hx.elim
      · rename_i os hos
        simp only [hos, if_true] at hok hre
        simp only [if_true] at hx
        split at hx
        · rename_i hpl
          rw [if_pos hpl] at hok hre
          have hre := hre rfl
          have good := Plot.good_of_ok hpl
          have hok:(Iw sm ((Co (ops.toList.map Dg) os).sk.map (L0 os)) dom&&rOk (Iy ((Co (ops.toList.map Dg) os).sk.map (L0 os)) dom))=true := hok
          rw [Bool.and_eq_true] at hok
          have run:∀ (b n0:K4), (DT sm cf2 b ((Co (ops.toList.map Dg) os).sk.map (L0 os)) env t' h h n0 (fun env t _ h n => rest env t h n)).sat Φ →
              ((Co (ops.toList.map Dg) os).HasAl->b.d = .d0)->((Co (ops.toList.map Dg) os).HasAl->n.toN≤b.toN)->((Co (ops.toList.map Dg) os).HasAl->b.toN+16≤n0.toN)->n.toN≤n0.toN->(Code.region id ops true).wp P Q a w := fun b n0 hx k1 k2 k3 k4 => by
            obtain ⟨st, env1, t1', s0, hst, ri1, e3⟩ := IB h2 (s := ⟨t, h, h, n0⟩) hok.1 ri (R.sat_good hx)
            have e3:DT sm cf2 b ((Co (ops.toList.map Dg) os).sk.map (L0 os)) env t' h h n0 (fun env t _ h n => rest env t h n)=_ := e3
            rw [e3, List.length_map] at hx
            rw [List.length_map] at ri1
            have r:Rn P N ops os (Co (ops.toList.map Dg) os) cf b st := ⟨good, hos, rfl, fun l x hlx => hst l _ (by rw [List.getElem?_map, hlx]; rfl)⟩
            refine Rm (φ := φ) hρ hm hcf r s0 k1 k2 k3 k4 hT g fun φ' a' w' f1 g1 T1 => ?_
            exact hre _ env1 _ t1' _ _ hok.2 ri1 hx φ' a' w' f1 g1 T1
          have hx:(SC ((Co (ops.toList.map Dg) os).sk.any SI.isAl) n (fun b n => DT sm cf2 b ((Co (ops.toList.map Dg) os).sk.map (L0 os)) env t' h h n fun env t _ h n => rest env t h n)).sat Φ := hx
          cases hal:(Co (ops.toList.map Dg) os).sk.any SI.isAl with
          | false =>
            have hn := Adb good hal
            rw [hal] at hx
            exact run n n hx (fun h => absurd h hn) (fun h => absurd h hn) (fun h => absurd h hn) (Nat.le_refl _)
          | true =>
            rw [hal] at hx
            have hx:(n.nx16 (fun b => b.nx16 fun n0 => DT sm cf2 b ((Co (ops.toList.map Dg) os).sk.map (L0 os)) env t' h h n0 fun env t _ h n => rest env t h n)).sat Φ := hx
            rcases K4.nx16_eq n (fun b => b.nx16 fun n0 => DT sm cf2 b ((Co (ops.toList.map Dg) os).sk.map (L0 os)) env t' h h n0 fun env t _ h n => rest env t h n) with ⟨w', e1⟩ | ⟨b, hbn, hb0, e1⟩
            · rw [e1] at hx; exact hx.elim
            · rw [e1] at hx
              rcases K4.nx16_eq b (fun n0 => DT sm cf2 b ((Co (ops.toList.map Dg) os).sk.map (L0 os)) env t' h h n0 fun env t _ h n => rest env t h n) with ⟨w', e2⟩ | ⟨n0, hn0, _, e2⟩
              · rw [e2] at hx; exact hx.elim
              · rw [e2] at hx
                have hbn' := RO hbn hb0 hn0
                exact run b n0 hx (fun _ => hb0) (fun _ => hbn'.1) (fun _ => by omega) (by omega)
        · exact hx.elim
    | false =>
      have hok:JU sm (match P1 P N ops ops.toList with | some r => .spl r.1 r.2.1 r.2.2.1 r.2.2.2 | none => CC P N ops false) rOk dom=true := hok
      have hx:(HI sm cf2 (match P1 P N ops ops.toList with | some r => .spl r.1 r.2.1 r.2.2.1 r.2.2.2 | none => CC P N ops false) rest env t' h n).sat Φ := hx
      have hre:AC.ends (match P1 P N ops ops.toList with | some r => .spl r.1 r.2.1 r.2.2.1 r.2.2.2 | none => CC P N ops false)=false->_ := hre
      cases hspl:P1 P N ops ops.toList with
      | some r =>
        rw [hspl] at hok hx hre
        obtain ⟨pre, sp, d, post⟩ := r
        have hre := hre rfl
        obtain ⟨l1, o, l2, hl, c1, c2, c3, c4, c5⟩ := LW hspl
        have hok:(GQ sm pre dom&&(Qg sm (D4 pre dom) sp&&(GQ sm post (Gx d (D4 pre dom))&&rOk (D4 post (Gx d (D4 pre dom))))))=true := hok
        rw [Bool.and_eq_true, Bool.and_eq_true, Bool.and_eq_true] at hok
        obtain ⟨k1, k2, k3, k4⟩ := hok
        have hx:(Dy sm cf2 pre env t' h n fun env t h n => X4 cf2 sp (Bi sm env t) h n fun v h n => Dp sm d t v fun t => Dy sm cf2 post (Ca d v env) t h n rest).sat Φ := hx
        obtain ⟨env1, t2, t2', h2', n2, e2, ri1, H⟩ := DG (B := B) (ops := ops) hρ hcf h2 c1 k1 ri (R.sat_good hx)
        rw [e2] at hx
        refine (wpIn_wide (n := 0)).1 (wpIn_region_list ?_)
        rw [hl]
        refine E7 (l := none) (.inl rfl) (H φ a w hT g Q (wpListIn (MU none) 0 P ops Q (o::l2)) fun φ' a' w' f1 g1 T1 => ?_)
        have one:∀ x:Opd, EJ sm (D4 pre dom) x=true->∀ κ:V->R, Bi sm env1 t2' x κ=κ (ev x t2) := fun x hk κ => by
          cases x with
          | c v => rfl
          | t p => exact ri1.tell hk κ
        have lst:∀ l:List Opd, l.all (EJ sm (D4 pre dom))=true->∀ κ:List V->R, Gb (Bi sm env1 t2') l κ=Gb (fun x κ => κ (ev x t2)) l κ := fun l hk κ => by
          rw [Gn (t := t2) (fun x hx => one x (List.all_eq_true.1 hk x hx)), Gn (t := t2) (fun x _ κ => rfl)]
        have et:X4 cf2 sp (Bi sm env1 t2') h2' n2=X4 cf2 sp (fun x κ => κ (ev x t2)) h2' n2 := by
          funext κ
          cases sp with
          | rng x => exact one x k2 _
          | nxt x => exact one x k2 _
          | ent x => exact one x k2 _
          | tcl f l => exact lst l k2 _
          | dcl x l =>
            have k2:(EJ sm (D4 pre dom) x&&l.all (EJ sm (D4 pre dom)))=true := k2
            rw [Bool.and_eq_true] at k2
            exact (one x k2.1 _).trans (lst l k2.2 _)
        rw [et] at hx
        have hw:Region.wanted o (yielded ops a'.tmps)=true := by simp [Region.wanted, c3]
        have st := Y5 (P := P) (ρ := ρ) (B := B) hct hR h2 c2 _ Φ hx φ' a' w' T1 g1 (wpListIn (MU none) 0 P ops Q l2) Q fun v h3 n3 hs φ2 x w2 f2 g2 r2 => by
          obtain ⟨t3', e3, ri3⟩ := ri1.put d v (fun t => Dy sm cf2 post (Ca d v env1) t h3 n3 rest)
          have hs:(Dp sm d t2' v fun t => Dy sm cf2 post (Ca d v env1) t h3 n3 rest).sat Φ := hs
          rw [e3] at hs
          obtain ⟨env4, t4, t4', h4, n4, e4, ri4, H4⟩ := DG (B := B) (ops := ops) hρ hcf h2 c5 k3 ri3 (R.sat_good hs)
          rw [e4] at hs
          have := E7 (l := none) (n := 0) (r := []) (.inl rfl) (H4 φ2 _ w2 ((T1.mono f2.ext).puts c4 r2) g2 Q (wpListIn (MU none) 0 P ops Q []) fun φ3 a3 w3 f3 g3 T3 => hre _ env4 t4 t4' h4 n4 k4 ri4 hs φ3 a3 w3 (Fr.trans f1 (Fr.trans f2 f3)) g3 T3)
          rwa [List.append_nil] at this
        show wpListIn (MU none) 0 P ops Q (o::l2) a' w'
        simp only [wpListIn]
        rw [if_pos hw]
        exact st
      | none =>
      rw [hspl] at hok hx hre
      have hok:JU sm (CC P N ops false) rOk dom=true := hok
      have hx:(HI sm cf2 (CC P N ops false) rest env t' h n).sat Φ := hx
      have hre:(CC P N ops false).ends=false->_ := hre
      unfold CC at hok hx hre
      split at hx
      · exact hx.elim
      · rename_i al hal
        simp only [hal, Bool.false_eq_true, if_false] at hok hre
        simp only [Bool.false_eq_true, if_false] at hx
        have hre := hre rfl
        have hok:(GQ sm al dom&&rOk (D4 al dom))=true := hok
        rw [Bool.and_eq_true] at hok
        have hx:(Dy sm cf2 al env t' h n rest).sat Φ := hx
        obtain ⟨env1, t2, t2', h2', n2, e2, ri1, H⟩ := P9 (B := B) (ops := ops) hρ hcf h2 hal hok.1 ri (R.sat_good hx)
        rw [e2] at hx
        exact wp_region_list (H φ a w hT g Q fun φ' a' w' f1 g1 T1 => hre _ env1 t2 t2' h2' n2 hok.2 ri1 hx φ' a' w' f1 g1 T1)
  | seq x y ihx ihy =>
    intro rest rOk dom env t t' h n Φ hok ri hx φ a w hT g Q hex hre
    have hok:JU sm (B8 P N x) (JU sm (B8 P N y) rOk) dom=true := hok
    have hx:(HI sm cf2 (B8 P N x) (HI sm cf2 (B8 P N y) rest) env t' h n).sat Φ := hx
    have hre:or (B8 P N x).ends (B8 P N y).ends=false->_ := hre
    refine wp_seq (ihx _ _ dom env t t' h n Φ hok ri hx φ a w hT g _ (fun e t1 h1 n1 hΦ hne φ' a' w' tf f1 g1 T1 hk => ?_) fun he dom2 env2 t2 t2' h2' n2 hok2 ri2 hr φ2 a2 w2 f2 g2 T2 => ?_)
    · have := hex e t1 h1 n1 hΦ hne φ' a' w' tf f1 g1 T1 hk
      cases e with
      | nrm => exact absurd rfl hne
      | exit id => exact this
      | ret => exact this
    · exact ihy rest rOk dom2 env2 t2 t2' h2' n2 Φ hok2 ri2 hr φ2 a2 w2 T2 g2 Q (fun e t1 h1 n1 hΦ hne φ' a' w' tf f1 g1 T1 hk => hex e t1 h1 n1 hΦ hne φ' a' w' tf (Fr.trans f2 f1) g1 T1 hk)
        fun he' dom3 env3 t3 t3' h3 n3 hok3 ri3 hr3 φ3 a3 w3 f3 g3 T3 => hre (by rw [he, he']; rfl) dom3 env3 t3 t3' h3 n3 hok3 ri3 hr3 φ3 a3 w3 (Fr.trans f2 f3) g3 T3
  | cond c x y ihx ihy =>
    intro rest rOk dom env t t' h n Φ hok ri hx φ a w hT g Q hex hre
    have hok:JU sm (match AH N c with | some c => .cond c (B8 P N x) (B8 P N y) | none => .bad "a test") rOk dom=true := hok
    have hx:(HI sm cf2 (match AH N c with | some c => .cond c (B8 P N x) (B8 P N y) | none => .bad "a test") rest env t' h n).sat Φ := hx
    have hre:AC.ends (match AH N c with | some c => .cond c (B8 P N x) (B8 P N y) | none => .bad "a test")=false->_ := hre
    split at hx
    · rename_i c' hc
      simp only [hc] at hok hre
      have hre:and (B8 P N x).ends (B8 P N y).ends=false->_ := hre
      have hok:(EJ sm dom c'&&br (B8 P N x).ends (JU sm (B8 P N x) (fun _ => true) dom&&JU sm (B8 P N y) rOk dom) (br (B8 P N y).ends (JU sm (B8 P N x) rOk dom&&JU sm (B8 P N y) (fun _ => true) dom) (JU sm (B8 P N x) (fun _ => true) dom&&(JU sm (B8 P N y) (fun _ => true) dom&&rOk []))))=true := hok
      rw [Bool.and_eq_true] at hok
      have hx:(Bi sm env t' c' (fun v => Sw (B8 P N x).ends (B8 P N y).ends v (HI sm cf2 (B8 P N x)) (HI sm cf2 (B8 P N y)) rest env t' h n)).sat Φ := hx
      have e0:∀ κ:V->R, Bi sm env t' c' κ=κ (ev c' t) := fun κ => by
        cases c' with
        | c v => rfl
        | t p => exact ri.tell hok.1 κ
      rw [e0] at hx
      have g1 := Ad hc hT
      generalize hv:ev c' t=v at hx g1
      obtain ⟨_, hok⟩ := hok
      unfold Sw at hx
      -- the value is a bool
      have key:∀ (A C:R) (κ:R->R), (∀ s, κ (.fail s) = .fail s)->(∀ x y, κ (.both x y) = .both (κ x) (κ y))->(κ (AY v A C)).sat Φ->∃ q, a.eval c = .bool q∧(κ (br q A C)).sat Φ := fun A C κ hκ hb hh => by
        have no:(κ (.fail "")).sat Φ->∃ q, a.eval c = .bool q∧(κ (br q A C)).sat Φ := fun hh => by rw [hκ] at hh; exact hh.elim
        cases v with
        | bool q => exact ⟨q, Ez g1, by cases q <;> exact hh⟩
        | oth o => cases o with
          | bl =>
            have g1 := g1
            simp only [As] at g1
            obtain ⟨q, hq⟩ := g1
            have hh:(κ (.both A C)).sat Φ := hh
            rw [hb] at hh
            exact ⟨q, hq, by cases q; exact hh.2; exact hh.1⟩
          | _ => exact no hh
        | _ => exact no hh
      cases hex':(B8 P N x).ends with
      | true =>
        rw [hex'] at hx hok hre
        have hok:(JU sm (B8 P N x) (fun _ => true) dom&&JU sm (B8 P N y) rOk dom)=true := hok
        rw [Bool.and_eq_true] at hok
        obtain ⟨q, hq, hx⟩ := key _ _ id (fun _ => rfl) (fun _ _ => rfl) hx
        refine wp_cond hq ?_
        cases q with
        | true => exact ihx r0 _ dom env t t' h n Φ hok.1 ri hx φ a w hT g Q hex fun he => by rw [hex'] at he; cases he
        | false => exact ihy rest rOk dom env t t' h n Φ hok.2 ri hx φ a w hT g Q hex fun he => hre (by rw [he]; rfl)
      | false =>
        rw [hex'] at hx hok hre
        have hre := hre rfl
        cases hey:(B8 P N y).ends with
        | true =>
          rw [hey] at hx hok
          have hok:(JU sm (B8 P N x) rOk dom&&JU sm (B8 P N y) (fun _ => true) dom)=true := hok
          rw [Bool.and_eq_true] at hok
          obtain ⟨q, hq, hx⟩ := key _ _ id (fun _ => rfl) (fun _ _ => rfl) hx
          refine wp_cond hq ?_
          cases q with
          | true => exact ihx rest rOk dom env t t' h n Φ hok.1 ri hx φ a w hT g Q hex fun _ => hre
          | false => exact ihy r0 _ dom env t t' h n Φ hok.2 ri hx φ a w hT g Q hex fun he => by rw [hey] at he; cases he
        | false =>
          rw [hey] at hx hok
          have hok:(JU sm (B8 P N x) (fun _ => true) dom&&(JU sm (B8 P N y) (fun _ => true) dom&&rOk []))=true := hok
          rw [Bool.and_eq_true, Bool.and_eq_true] at hok
          obtain ⟨q, hq, hx⟩ := key _ _ (fun r => Br r fun t h n => rest [] t h n) (fun _ => rfl) (fun _ _ => rfl) hx
          refine wp_cond hq ?_
          have fin:∀ (Z:Code), Ul P ρ B N sm Z t h n (Sb (fun t h n => rest [] t h n) Φ)->Z.wp P Q a w := fun Z HZ => by
            refine HZ φ a w hT g Q fun e0 t0 h0 n0 hj φ' a' w' tf f1 g1 T1 hk => ?_
            cases e0 with
            | nrm => exact hre [] [] tf t0 h0 n0 hok.2.2 (RI.start ri.inj hk) hj φ' a' w' f1 g1 T1
            | exit id => exact hex _ _ _ _ hj (fun h => by cases h) φ' a' w' tf f1 g1 T1 hk
            | ret => exact hex _ _ _ _ hj (fun h => by cases h) φ' a' w' tf f1 g1 T1 hk
          cases q with
          | true => exact fin x (ihx.join hok.1 ri (Hq hx))
          | false => exact fin y (ihy.join hok.2.1 ri (Hq hx))
    · exact hx.elim
  | block id b ih =>
    intro rest rOk dom env t t' h n Φ hok ri hx φ a w hT g Q hex hre
    have hok:(JU sm (B8 P N b) (fun _ => true) dom&&rOk [])=true := hok
    rw [Bool.and_eq_true] at hok
    have hx:(Aj id (HI sm cf2 (B8 P N b) r0 env t' h n) (fun t h n => rest [] t h n)).sat Φ := hx
    have hre := hre rfl
    refine wp_block (ih.join hok.1 ri (I2 hx) φ a w hT g _ fun e0 t0 h0 n0 hx φ' a' w' tf f1 g1 T1 hk => ?_)
    cases e0 with
    | nrm => exact hre [] [] tf t0 h0 n0 hok.2 (RI.start ri.inj hk) hx φ' a' w' f1 g1 T1
    | exit j =>
      show (if j=id then Q .normal a' w' else Q (.exit j) a' w')
      rcases hx with ⟨hj, hx⟩ | ⟨hj, hx⟩
      · rw [if_pos hj]; exact hre [] [] tf t0 h0 n0 hok.2 (RI.start ri.inj hk) hx φ' a' w' f1 g1 T1
      · rw [if_neg hj]; exact hex _ _ _ _ hx (fun h => by cases h) φ' a' w' tf f1 g1 T1 hk
    | ret => exact hex _ _ _ _ hx (fun h => by cases h) φ' a' w' tf f1 g1 T1 hk
  | loop b ih =>
    intro rest rOk dom env t t' h n Φ hok ri hx φ a w hT g Q hex hre
    have hok:JU sm (B8 P N b) (fun _ => true) []=true := hok
    have hx:(Jy (fun t h n => HI sm cf2 (B8 P N b) r0 [] t h n) 1000000000 t' h n).sat Φ := hx
    refine wp_loop_rounds 1000000000 ?_
    have key:∀ (k:Nat) (t:Regs) (t':S) (h:Heap) (n:K4), (∀ p s, CJ p sm=some s->S.get s t'=Bg p t)->(Jy (fun t h n => HI sm cf2 (B8 P N b) r0 [] t h n) k t' h n).sat Φ->∀ φ a w, TR ρ N φ t a->Gam ρ B h n φ w →
        (∀ e t1 h1 n1, Φ (.ok e t1 h1 n1)->e ≠ .nrm->∀ φ' a' w' tf, Fr h h1 φ φ' n n1 w w'->Gam ρ B h1 n1 φ' w'->TR ρ N φ' tf a'->(∀ p s, CJ p sm=some s->S.get s t1=Bg p tf)->Q (PA e) a' w')->Code.rounds P b Q k a w := by
      intro k
      induction k with
      | zero => intro t t' h n _ hx; exact hx.elim
      | succ k ihk =>
        intro t t' h n hk0 hx φ a w hT g hQ
        refine ih.join hok (RI.start ri.inj hk0) (UY hx) φ a w hT g _ fun e0 t0 h0 n0 hx φ' a' w' tf f1 g1 T1 hk => ?_
        cases e0 with
        | nrm => exact ihk tf t0 h0 n0 hk hx φ' a' w' T1 g1 fun e t1 h1 n1 hΦ hne φ2 a2 w2 tf2 f2 g2 T2 hk2 => hQ e t1 h1 n1 hΦ hne φ2 a2 w2 tf2 (Fr.trans f1 f2) g2 T2 hk2
        | exit id => exact hQ _ _ _ _ hx (fun h => by cases h) φ' a' w' tf f1 g1 T1 hk
        | ret => exact hQ _ _ _ _ hx (fun h => by cases h) φ' a' w' tf f1 g1 T1 hk
    exact key _ t t' h n ri.keep hx φ a w hT g hex
  | rangeFunc _ _ _ _ => intro rest rOk dom env t t' h n Φ hok ri hx; exact hx.elim
  | scope _ => intro rest rOk dom env t t' h n Φ hok ri hx; exact hx.elim
  | goto _ => intro rest rOk dom env t t' h n Φ hok ri hx; exact hx.elim
  | refuse _ => intro rest rOk dom env t t' h n Φ hok ri hx; exact hx.elim
end
end Go.Ev

namespace Go.Ev
set_option linter.unusedVariables false
def WD (v:V):List K4->List K4 :=
  @V.rec (fun _ => List K4->List K4) (fun _ => List K4->List K4)
    (fun _ _ a => a) (fun _ a => a) (fun p _ a => p::a) (fun p _ _ _ _ _ a => p::a) (fun _ _ a => a) (fun _ ih a => ih a) (fun _ a => a) (fun p a => p::a) (fun _ _ ih a => ih a) (fun _ ih a => ih a) (fun _ a => a)
    (fun a => a) (fun _ _ ihx ihl a => ihx (ihl a)) v
def WT (l:List V) (a:List K4):List K4 := @List.rec V (fun _ => List K4) a (fun v _ ih => WD v ih) l
def Aa4 (es:List (V×V)) (a:List K4):List K4 := @List.rec (V×V) (fun _ => List K4) a (fun e _ ih => @Prod.rec V V (fun _ => List K4) (fun x y => WD x (WD y ih)) e) es
def Ue (o:Ob) (a:List K4):List K4 :=
  @Ob.rec (fun _ => List K4) (fun cs _ _ => @Cs.rec (fun _ => List K4) (fun xs => WT xs a) (fun _ _ => a) cs) (fun es _ _ => Aa4 es a) (fun _ _ _ _ => a) a (fun _ _ => a) o
/-- An object that may be run on. -/
def I3 (o:Ob):Bool := @Ob.rec (fun _ => Bool) (fun _ sup _ => @Bool.rec (fun _ => Bool) true false sup) (fun _ _ _ => true) (fun _ _ _ _ => false) false (fun _ _ => false) o
/-- An object without its tie to an elder one. -/
def N4 (o:Ob):Ob := @Ob.rec (fun _ => Ob) (fun cs sup _ => .c cs sup none) (fun es bs c => .m es bs c) (fun p s l c => .it p s l c) .it0 (fun f b => .lp f b) o
theorem RF (o:Ob):Cf (N4 o)=none := by cases o <;> rfl
theorem Vb {ρ:Env} {φ:AT} {w:World} {o:Ob} {b s tot:Nat} (h:GE ρ φ w o b s tot):GE ρ φ w (N4 o) b s tot := by cases o <;> exact h
/-- The objects that are reached. -/
def Ef (h:Heap) (k:Nat):List K4->Heap->List K4->(Heap->List K4->R)->R :=
  @Nat.rec (fun _ => List K4->Heap->List K4->(Heap->List K4->R)->R) (fun _ hs acc κ => κ hs acc)
    (fun _ ih todo hs acc κ => @List.rec K4 (fun _ => R) (κ hs acc) (fun p todo _ => Bt p hs fun o => @Option.rec Ob (fun _ => R)
      (Bt p h fun o => @Option.rec Ob (fun _ => R) (ih todo hs acc κ) (fun ob => br (I3 ob) (BW p hs (some (N4 ob)) fun hs => ih (Ue ob todo) hs (p::acc) κ) (ih todo hs acc κ)) o)
      (fun _ => ih todo hs acc κ) o) todo) k
def Nt (p n:K4):Bool := Nat.ble (Nat.succ p.toN) n.toN
def Fo (n:K4) (v:V):Bool :=
  @V.rec (fun _ => Bool) (fun _ => Bool)
    (fun _ _ => true) (fun _ => true) (fun p _ => Nt p n) (fun p _ _ _ _ _ => Nt p n) (fun _ _ => true) (fun _ ih => ih) (fun _ => true) (fun p => Nt p n) (fun _ _ ih => ih) (fun _ ih => ih) (fun o => @Ot.rec (fun _ => Bool) true (fun _ => true) (fun p => Nt p n) false (fun _ _ _ => true) (fun _ _ => true) true (fun _ _ => true) (fun _ _ _ _ => true) (fun _ _ _ _ => true) (fun _ _ _ => true) (fun _ _ => true) (fun _ _ => true) (fun _ _ _ => true) (fun _ => true) o)
    true (fun _ _ ihx ihl => br ihx ihl false) v
def L2 (n:K4) (l:List V):Bool := Fo n (.tup l)
def Kb (p:Option K4) (κ:R):R := @Option.rec K4 (fun _ => R) κ (AV "") p
def Px (n:K4) (a b:Cs) (κ:R):R :=
  @Cs.rec (fun _ => R) (fun xs => @Cs.rec (fun _ => R) (fun ys => br (L2 n xs) (BE (.tup xs) (.tup ys) κ) (.fail "")) (AG "") b)
    (fun m c => @Cs.rec (fun _ => R) (AV "") (fun m' c' => br (Nat.beq m m') (br (Nat.beq c c') κ (.fail "")) (.fail "")) b) a
def Ks (n:K4) (a:List (V×V)):List (V×V)->R->R :=
  @List.rec (V×V) (fun _ => List (V×V)->R->R) (fun b κ => @List.rec (V×V) (fun _ => R) κ (Cb "") b)
    (fun e _ ih b κ => @List.rec (V×V) (fun _ => R) (.fail "") (fun e' b _ => @Prod.rec V V (fun _ => R) (fun x y => @Prod.rec V V (fun _ => R) (fun x' y' => br (Fo n x) (br (Fo n y) (BE x x' (BE y y' (ih b κ))) (.fail "")) (.fail "")) e') e) b) a
def Ka (a:List Nat):List Nat->R->R :=
  @List.rec Nat (fun _ => List Nat->R->R) (fun b κ => @List.rec Nat (fun _ => R) κ (Cb "") b)
    (fun x _ ih b κ => @List.rec Nat (fun _ => R) (.fail "") (fun y b _ => br (Nat.beq x y) (ih b κ) (.fail "")) b) a
def QN (n:K4) (a b:Ob) (κ:R):R :=
  @Ob.rec (fun _ => R) (fun cs sup prev => br sup (.fail "") (Kb prev (@Ob.rec (fun _ => R) (fun cs' sup' prev' => br sup' (.fail "") (Kb prev' (Px n cs cs' κ))) (Cb "") (Fp "") (.fail "") (AG "") b)))
    (fun es bs c => @Ob.rec (fun _ => R) (Cb "") (fun es' bs' c' => br (Nat.beq c c') (Ka bs bs' (Ks n es es' κ)) (.fail "")) (Fp "") (.fail "") (AG "") b) (Fp "") (.fail "") (AG "") a
def Ha (n:K4) (a b:Cx) (κ:R):R :=
  @Option.rec Ob (fun _ => R) (@Option.rec Ob (fun _ => R) κ (AV "") b) (fun x => @Option.rec Ob (fun _ => R) (.fail "") (fun y => QN n x y κ) b) a
def Gz (n:K4) (h1 h':Heap) (acc:List K4) (κ:R):R :=
  @List.rec K4 (fun _ => R) κ (fun p _ ih => Bt p h1 fun a => Bt p h' fun b => Ha n a b ih) acc
/-- Without the tie to memory that is new too. -/
def Yh (n:K4) (p:Option K4):Option K4 := @Option.rec K4 (fun _ => Option K4) none (fun q => @Bool.rec (fun _ => Option K4) none (some q) (Nt q n)) p
def Jf (n:K4) (o:Cx):Cx := @Option.rec Ob (fun _ => Cx) none (fun o => some (@Ob.rec (fun _ => Ob) (fun cs sup prev => .c cs sup (Yh n prev)) (fun es bs c => .m es bs c) (fun p s l c => .it p s l c) .it0 (fun f b => .lp f b) o)) o
/-- The results: alike, and nothing new in them; or two new slices that are alike. -/
def Ii (n:K4) (v1:V) (h1:Heap) (v':V) (h':Heap) (κ:R):R :=
  br (Fo n v1) (BE v1 v' κ) (DM v1 (.fail "") fun p off len cap ex esz => DM v' (.fail "") fun p' off' len' cap' ex' esz' =>
    br (Nt p n) (.fail "") (br (Nt p' n) (.fail "") (BE (.sl p off len cap ex esz) (.sl p off' len' cap' ex' esz') (Bt p h1 fun a => Bt p' h' fun b => Ha n (Jf n a) (Jf n b) κ))))
def Pr (r:R):(V->Heap->R)->R :=
  @R.rec (fun _ => (V->Heap->R)->R) (fF5 "") (fun v h _ κ => κ v h) (fun w _ => .fail w) (fun _ _ iha _ κ => iha κ) r
def UM (a b:K4) (κ:K4->R):R := br (Nat.ble a.toN b.toN) (κ b) (κ a)
def TQ (n:K4) (v1:V) (h1:Heap) (acc:List K4) (r:R):K4->(K4->R)->R :=
  @R.rec (fun _ => K4->(K4->R)->R) (DN "") (fun v h m mx κ => Ii n v1 h1 v h (Gz n h1 h acc (UM m mx κ))) (fun w _ _ => .fail w) (fun _ _ iha ihb mx κ => iha mx fun mx => ihb mx κ) r
def QU (o:Ob) (h:Heap) (κ:Heap->R):R := @Ob.rec (fun _ => R) (fun _ _ prev => @Option.rec K4 (fun _ => R) (κ h) (fun q => BW q h none κ) prev) (fun _ _ _ => κ h) (fun _ _ _ _ => κ h) (κ h) (fun _ _ => κ h) o
def OH (h h1:Heap) (acc:List K4):(Heap->R)->R :=
  @List.rec K4 (fun _ => (Heap->R)->R) (fun κ => κ h)
    (fun p _ ih κ => ih fun hf => Bt p h fun o => @Option.rec Ob (fun _ => R) (.fail "") (fun o => QU o hf fun hf => Bt p h1 fun o1 => BW p hf o1 κ) o) acc
def WP (n:K4) (v1:V) (h1 hf:Heap) (m:K4):R :=
  br (Fo n v1) (.rv v1 hf m) (DM v1 (.fail "") fun p off len cap ex esz => Bt p h1 fun o => @Option.rec Ob (fun _ => R) (.fail "") (fun ob => BW m hf (some ob) fun hf => m.nx fun m' => .rv (.sl m off len cap ex esz) hf m') (Jf n o))
def Wy (n:K4) (h:Heap) (acc:List K4) (r:R):R :=
  Pr r fun v1 h1 => TQ n v1 h1 acc r n fun m => OH h h1 acc fun hf => WP n v1 h1 hf m
def Zy (k:Nat) (run:Heap->R) (args:List V) (h:Heap) (n:K4):R :=
  Ef h k (WT args []) AJ [] fun hs acc => Wy n h acc (run hs)
section
variable {P:Program} {ρ:Env} {B:Nat}
structure Sub (h hs:Heap) (acc:List K4):Prop where
  sub:∀ p o, A8 p hs=some o->∃ o0, A8 p h=some o0∧o=N4 o0∧I3 o0=true∧p∈acc
  has:∀ p, p∈acc->∃ o, A8 p hs=some o
theorem Sub.mem {h hs:Heap} {acc:List K4} (s:Sub h hs acc) {p:K4} {o:Ob} (hp:A8 p hs=some o):p∈acc := by
  obtain ⟨_, _, _, _, m⟩ := s.sub p o hp; exact m
theorem Sub.in_h {h hs:Heap} {acc:List K4} (s:Sub h hs acc) {p:K4} {o:Ob} (hp:A8 p hs=some o):∃ o0, A8 p h=some o0 := by
  obtain ⟨o0, e, _⟩ := s.sub p o hp; exact ⟨o0, e⟩
theorem FX {h:Heap}:∀ (k:Nat) {todo:List K4} {hs:Heap} {acc:List K4} {κ:Heap->List K4->R}, Sub h hs acc->∃ hs' acc', Sub h hs' acc'∧Ef h k todo hs acc κ=κ hs' acc'
  | 0, todo, hs, acc, κ, s => ⟨hs, acc, s, rfl⟩
  | k+1, [], hs, acc, κ, s => ⟨hs, acc, s, rfl⟩
  | k+1, p::todo, hs, acc, κ, s => by
    have e:Ef h (k+1) (p::todo) hs acc κ=Bt p hs fun o => @Option.rec Ob (fun _ => R)
      (Bt p h fun o => @Option.rec Ob (fun _ => R) (Ef h k todo hs acc κ) (fun ob => br (I3 ob) (BW p hs (some (N4 ob)) fun hs => Ef h k (Ue ob todo) hs (p::acc) κ) (Ef h k todo hs acc κ)) o)
      (fun _ => Ef h k todo hs acc κ) o := rfl
    rw [e, Bm]
    cases h1:A8 p hs with
    | some o => exact FX k s
    | none =>
      show ∃ hs' acc', Sub h hs' acc'∧(Bt p h fun o => @Option.rec Ob (fun _ => R) (Ef h k todo hs acc κ) (fun ob => br (I3 ob) (BW p hs (some (N4 ob)) fun hs => Ef h k (Ue ob todo) hs (p::acc) κ) (Ef h k todo hs acc κ)) o)=κ hs' acc'
      rw [Bm]
      cases h2:A8 p h with
      | none => exact FX k s
      | some ob =>
        show ∃ hs' acc', Sub h hs' acc'∧br (I3 ob) (BW p hs (some (N4 ob)) fun hs => Ef h k (Ue ob todo) hs (p::acc) κ) (Ef h k todo hs acc κ)=κ hs' acc'
        cases h3:I3 ob with
        | false => exact FX k s
        | true =>
          show ∃ hs' acc', Sub h hs' acc'∧(BW p hs (some (N4 ob)) fun hs => Ef h k (Ue ob todo) hs (p::acc) κ)=κ hs' acc'
          rw [BZ, B6]
          refine FX k ⟨fun q o hq => ?_, fun q hq => ?_⟩
          · rcases BA hq with ⟨rfl, e⟩ | ⟨hne, hq⟩
            · cases e; exact ⟨ob, h2, rfl, h3, List.mem_cons_self ..⟩
            · obtain ⟨o0, a, e, b, c⟩ := s.sub q o hq; exact ⟨o0, a, e, b, List.mem_cons_of_mem _ c⟩
          · by_cases e:p=q
            · subst e; exact ⟨N4 ob, A6 _ _ _⟩
            · rw [A7 _ _ e]
              rcases List.mem_cons.1 hq with e' | hq
              · exact absurd e'.symm e
              · exact s.has q hq
theorem Sub.nil {h:Heap}:Sub h AJ [] := ⟨fun p o hp => (by rw [Ew] at hp; cases hp), fun p hp => (by simp at hp)⟩
theorem GI {p n:K4}:Nt p n=true ↔ p.toN<n.toN := by unfold Nt; rw [Aa]; omega
mutual
theorem EW {n:K4} {φ1 φ2:AT} (hφ:∀ p x, p.toN<n.toN->φ1 p=some x->φ2 p=some x):∀ {v:V} {x:Value}, Fo n v=true->As ρ φ1 v x->As ρ φ2 v x
  | .int _ _, _, _, r => by simpa only [As] using r
  | .bool _, _, _, r => by simpa only [As] using r
  | .ptr p _, _, ho, r => by
    have ho:Nt p n=true := ho
    simp only [As] at r ⊢
    obtain ⟨b, s, tot, hp, e⟩ := r
    exact ⟨b, s, tot, hφ _ _ (GI.1 ho) hp, e⟩
  | .sl p _ _ _ _ _, _, ho, r => by
    have ho:Nt p n=true := ho
    simp only [As] at r ⊢
    obtain ⟨b, s, tot, o, c, hp, e⟩ := r
    exact ⟨b, s, tot, o, c, hφ _ _ (GI.1 ho) hp, e⟩
  | .str _ _, _, _, r => by simpa only [As] using r
  | .agg l, _, ho, r => by
    have ho:L2 n l=true := ho
    simp only [As] at r ⊢
    obtain ⟨cs, e, hl, hh⟩ := r
    exact ⟨cs, e, Gw hφ ho hl, hh⟩
  | .nil _, _, _, r => by simpa only [As] using r
  | .map p, _, ho, r => by
    have ho:Nt p n=true := ho
    simp only [As] at r ⊢
    obtain ⟨b, s, tot, hp, e⟩ := r
    exact ⟨b, s, tot, hφ _ _ (GI.1 ho) hp, e⟩
  | .fn _ l, _, ho, r => by
    have ho:L2 n l=true := ho
    simp only [As] at r ⊢
    obtain ⟨cs, e, hl⟩ := r
    exact ⟨cs, e, Gw hφ ho hl⟩
  | .tup l, _, ho, r => by
    have ho:L2 n l=true := ho
    simp only [As] at r ⊢
    obtain ⟨cs, e, hl⟩ := r
    exact ⟨cs, e, Gw hφ ho hl⟩
  | .oth o, _, ho, r => by
    cases o with
    | yl p =>
      have ho:Nt p n=true := ho
      simp only [As] at r ⊢
      obtain ⟨b, s, tot, hp, e⟩ := r
      exact ⟨b, s, tot, hφ _ _ (GI.1 ho) hp, e⟩
    | _ => simp only [As] at r ⊢ <;> exact r
theorem Gw {n:K4} {φ1 φ2:AT} (hφ:∀ p x, p.toN<n.toN->φ1 p=some x->φ2 p=some x):∀ {l:List V} {xs:List Value}, L2 n l=true->By ρ φ1 l xs->By ρ φ2 l xs
  | [], _, _, r => by simpa only [By] using r
  | v::l, _, ho, r => by
    have ho:br (Fo n v) (L2 n l) false=true := ho
    simp only [By] at r ⊢
    obtain ⟨y, ys, e, hy, hys⟩ := r
    cases h1:Fo n v with
    | false => rw [h1] at ho; cases ho
    | true =>
      rw [h1] at ho
      exact ⟨y, ys, e, EW hφ h1 hy, Gw hφ ho hys⟩
end
theorem NY {n:K4}:∀ {l:List V}, L2 n l=true->∀ v∈l, Fo n v=true
  | [], _, v, hv => by simp at hv
  | x::l, ho, v, hv => by
    have ho:br (Fo n x) (L2 n l) false=true := ho
    cases h1:Fo n x with
    | false => rw [h1] at ho; cases ho
    | true =>
      rw [h1] at ho
      rcases List.mem_cons.1 hv with e | hv
      · subst e; exact h1
      · exact NY (show L2 n l=true from ho) v hv
/-- An object that names nothing new, and shares its memory with no other. -/
def JH (n:K4):Ob->Prop
  | .c (.l xs) sup prev => L2 n xs=true∧sup=false∧prev=none
  | .c (.b _ _) sup prev => sup=false∧prev=none
  | .m es _ _ => ∀ e∈es, Fo n e.1=true∧Fo n e.2=true
  | _ => False
theorem JH.prev {n:K4} {o:Ob} (h:JH n o):Cf o=none := by
  cases o with
  | c cs sup prev => cases cs with
    | l xs => exact h.2.2
    | b m c => exact h.2
  | m es bs c => rfl
  | it _ _ _ _ => exact h.elim
  | it0 => exact h.elim
  | lp _ _ => exact h.elim
theorem JH.sup {n:K4} {o:Ob} (h:JH n o):Jh o=false := by
  cases o with
  | c cs sup prev => cases cs with
    | l xs => exact h.2.1
    | b m c => exact h.1
  | m es bs c => rfl
  | it _ _ _ _ => exact h.elim
  | it0 => exact h.elim
  | lp _ _ => exact h.elim
theorem RN {n:K4} {o:Cx} {ob:Ob} (h:Jf n o=some ob):∃ obr, o=some obr∧(Cf ob=none->∀ q, Cf obr=some q->n.toN≤q.toN) ∧ ∀ {φ:AT} {w:World} {b s tot:Nat}, GE ρ φ w obr b s tot->GE ρ φ w ob b s tot := by
  cases o with
  | none => cases h
  | some obr =>
    refine ⟨obr, rfl, ?_⟩
    cases obr with
    | c cs sup prev =>
      have h:some (Ob.c cs sup (Yh n prev))=some ob := h
      cases h
      refine ⟨fun hp q hq => ?_, fun k => k⟩
      have hq:prev=some q := hq
      subst hq
      have hp:@Bool.rec (fun _ => Option K4) none (some q) (Nt q n)=none := hp
      cases hl:Nt q n with
      | true => rw [hl] at hp; cases hp
      | false =>
        rcases Nat.lt_or_ge q.toN n.toN with h | h
        · rw [GI.2 h] at hl; cases hl
        · exact h
    | m _ _ _ => cases h; exact ⟨fun _ q hq => (by cases hq), fun k => k⟩
    | it _ _ _ _ => cases h; exact ⟨fun _ q hq => (by cases hq), fun k => k⟩
    | it0 => cases h; exact ⟨fun _ q hq => (by cases hq), fun k => k⟩
    | lp _ _ => cases h; exact ⟨fun _ q hq => (by cases hq), fun k => k⟩
theorem KX {n:K4} {φ1 φ2:AT} (hφ:∀ p x, p.toN<n.toN->φ1 p=some x->φ2 p=some x) {w:World} {o:Ob} {b s tot:Nat} (ho:JH n o) (k:GE ρ φ1 w o b s tot):GE ρ φ2 w o b s tot := by
  cases o with
  | c cs sup prev =>
    obtain ⟨c, e, fr, h1, h2, h3, h4, h5⟩ := k
    refine ⟨c, e, fr, h1, h2, h3, h4, fun i v hv => ?_⟩
    obtain ⟨x, k1, k2, k3⟩ := h5 i v hv
    refine ⟨x, k1, ?_, k3⟩
    cases cs with
    | l xs => exact EW hφ (NY ho.1 v (List.mem_of_getElem? hv)) k2
    | b m c =>
      by_cases hi:i<m
      · rw [Cs.b_pos hi] at hv; cases hv; exact EW hφ rfl k2
      · rw [Cs.b_neg hi] at hv; cases hv
  | m es bs clk =>
    obtain ⟨ents, h1, h2, h3⟩ := k
    refine ⟨ents, h1, ?_, h3⟩
    have ho':∀ e∈es, Fo n e.1=true∧Fo n e.2=true := ho
    clear h1 h3 ho
    generalize ents.toList=l at h2
    induction es generalizing l with
    | nil => exact h2
    | cons e es ih =>
      obtain ⟨y, ys, rfl, k1, k2, k3⟩ := h2
      obtain ⟨o1, o2⟩ := ho' e (List.mem_cons_self ..)
      exact ⟨y, ys, rfl, EW hφ o1 k1, EW hφ o2 k2, ih (fun e he => ho' e (List.mem_cons_of_mem _ he)) _ k3⟩
  | it _ _ _ _ => exact ho.elim
  | it0 => exact ho.elim
  | lp _ _ => exact ho.elim
theorem Kf {p:Option K4} {κ:R} (h:(Kb p κ).good):p=none∧Kb p κ=κ := by
  cases p with
  | none => exact ⟨rfl, rfl⟩
  | some q => exact h.elim
theorem Jr:∀ {a b:List Nat} {κ:R}, (Ka a b κ).good->a=b∧Ka a b κ=κ
  | [], [], κ, _ => ⟨rfl, rfl⟩
  | [], _::_, κ, h => h.elim
  | _::_, [], κ, h => h.elim
  | x::a, y::b, κ, h => by
    have h:R.good (br (Nat.beq x y) (Ka a b κ) (.fail "")) := h
    obtain ⟨h1, e1⟩ := Ae h
    rw [e1] at h
    obtain ⟨h2, e2⟩ := Jr h
    exact ⟨by rw [Nat.eq_of_beq_eq_true h1, h2], Eq.trans e1 e2⟩
theorem Js {n:K4}:∀ {a b:List (V×V)} {κ:R}, (Ks n a b κ).good->a=b∧(∀ e∈a, Fo n e.1=true∧Fo n e.2=true)∧Ks n a b κ=κ
  | [], [], κ, _ => ⟨rfl, fun e he => by simp at he, rfl⟩
  | [], _::_, κ, h => h.elim
  | _::_, [], κ, h => h.elim
  | (x, y)::a, (x', y')::b, κ, h => by
    have h:R.good (br (Fo n x) (br (Fo n y) (BE x x' (BE y y' (Ks n a b κ))) (.fail "")) (.fail "")) := h
    obtain ⟨h1, e1⟩ := Ae h
    rw [e1] at h
    obtain ⟨h2, e2⟩ := Ae h
    rw [e2] at h
    obtain ⟨h3, e3⟩ := El h
    rw [e3] at h
    obtain ⟨h4, e4⟩ := El h
    rw [e4] at h
    obtain ⟨h5, h6, e5⟩ := Js h
    refine ⟨by rw [h3, h4, h5], fun e he => ?_, Eq.trans e1 (e2.trans (e3.trans (e4.trans e5)))⟩
    rcases List.mem_cons.1 he with e' | he
    · subst e'; exact ⟨h1, h2⟩
    · exact h6 e he
theorem P7 {n:K4} {a b:Ob} {κ:R} (h:(QN n a b κ).good):a=b∧JH n a∧QN n a b κ=κ := by
  cases a with
  | c cs sup prev =>
    have h0:R.good (br sup (.fail "") (Kb prev (@Ob.rec (fun _ => R) (fun cs' sup' prev' => br sup' (.fail "") (Kb prev' (Px n cs cs' κ))) (Cb "") (Fp "") (.fail "") (AG "") b))) := h
    obtain ⟨h1, e1⟩ := Gd h0
    rw [e1] at h0
    obtain ⟨h2, e2⟩ := Kf h0
    rw [e2] at h0
    cases b with
    | c cs' sup' prev' =>
      have h0:R.good (br sup' (.fail "") (Kb prev' (Px n cs cs' κ))) := h0
      obtain ⟨h3, e3⟩ := Gd h0
      rw [e3] at h0
      obtain ⟨h4, e4⟩ := Kf h0
      rw [e4] at h0
      subst h1 h2 h3 h4
      cases cs with
      | l xs => cases cs' with
        | l ys =>
          have h0:R.good (br (L2 n xs) (BE (.tup xs) (.tup ys) κ) (.fail "")) := h0
          obtain ⟨h5, e5⟩ := Ae h0
          rw [e5] at h0
          obtain ⟨h6, e6⟩ := El h0
          cases h6
          exact ⟨rfl, ⟨h5, rfl, rfl⟩, Eq.trans e5 e6⟩
        | b m c => exact h0.elim
      | b m c => cases cs' with
        | l ys => exact h0.elim
        | b m' c' =>
          have h0:R.good (br (Nat.beq m m') (br (Nat.beq c c') κ (.fail "")) (.fail "")) := h0
          obtain ⟨h5, e5⟩ := Ae h0
          rw [e5] at h0
          obtain ⟨h6, e6⟩ := Ae h0
          exact ⟨by rw [Nat.eq_of_beq_eq_true h5, Nat.eq_of_beq_eq_true h6], ⟨rfl, rfl⟩, Eq.trans e5 e6⟩
    | m _ _ _ => exact h0.elim
    | it _ _ _ _ => exact h0.elim
    | it0 => exact h0.elim
    | lp _ _ => exact h0.elim
  | m es bs c => cases b with
    | m es' bs' c' =>
      have h0:R.good (br (Nat.beq c c') (Ka bs bs' (Ks n es es' κ)) (.fail "")) := h
      obtain ⟨h1, e1⟩ := Ae h0
      rw [e1] at h0
      obtain ⟨h2, e2⟩ := Jr h0
      rw [e2] at h0
      obtain ⟨h3, h4, e3⟩ := Js h0
      refine ⟨by rw [Nat.eq_of_beq_eq_true h1, h2, h3], h4, Eq.trans e1 (e2.trans e3)⟩
    | c _ _ _ => exact h.elim
    | it _ _ _ _ => exact h.elim
    | it0 => exact h.elim
    | lp _ _ => exact h.elim
  | it _ _ _ _ => exact h.elim
  | it0 => exact h.elim
  | lp _ _ => exact h.elim
theorem Jn {n:K4} {a b:Cx} {κ:R} (h:(Ha n a b κ).good):a=b∧(∀ o, a=some o->JH n o)∧Ha n a b κ=κ := by
  cases a with
  | none => cases b with
    | none => exact ⟨rfl, fun o h => (by cases h), rfl⟩
    | some y => exact h.elim
  | some x => cases b with
    | none => exact h.elim
    | some y =>
      obtain ⟨h1, h2, e⟩ := P7 (show R.good (QN n x y κ) from h)
      subst h1
      exact ⟨rfl, fun o h => (by cases h; exact h2), e⟩
theorem In {n:K4} {h1 h':Heap}:∀ {acc:List K4} {κ:R}, (Gz n h1 h' acc κ).good->(∀ p∈acc, A8 p h1=A8 p h' ∧ ∀ o, A8 p h1=some o->JH n o)∧Gz n h1 h' acc κ=κ
  | [], κ, _ => ⟨fun p hp => by simp at hp, rfl⟩
  | q::acc, κ, h => by
    have e0:Gz n h1 h' (q::acc) κ=Ha n (A8 q h1) (A8 q h') (Gz n h1 h' acc κ) := by
      show (Bt q h1 fun a => Bt q h' fun b => Ha n a b (Gz n h1 h' acc κ))=_
      rw [Bm, Bm]
    rw [e0] at h
    obtain ⟨a1, a2, e1⟩ := Jn h
    rw [e1] at h
    obtain ⟨a3, e2⟩ := In h
    refine ⟨fun p hp => ?_, e0.trans (e1.trans e2)⟩
    rcases List.mem_cons.1 hp with e | hp
    · subst e; exact ⟨a1, a2⟩
    · exact a3 p hp
/-- Two results. -/
def Sl (n:K4) (v1:V) (h1:Heap) (v':V) (h':Heap):Prop :=
  (Fo n v1=true∧v1=v')∨(Fo n v1=false ∧ ∃ p p' off len cap ex esz, v1 = .sl p off len cap ex esz∧v' = .sl p' off len cap ex esz∧n.toN≤p.toN∧n.toN≤p'.toN∧Jf n (A8 p h1)=Jf n (A8 p' h') ∧ ∀ o, Jf n (A8 p h1)=some o->JH n o)
theorem Np {n:K4} {v1 v':V} {h1 h':Heap} {κ:R} (h:(Ii n v1 h1 v' h' κ).good):Sl n v1 h1 v' h'∧Ii n v1 h1 v' h' κ=κ := by
  unfold Ii at h ⊢
  cases ho:Fo n v1 with
  | true =>
    rw [ho] at h
    obtain ⟨a, e⟩ := El (show R.good (BE v1 v' κ) from h)
    exact ⟨.inl ⟨ho, a⟩, e⟩
  | false =>
    rw [ho] at h
    have h:R.good (DM v1 (.fail "") fun p off len cap ex esz => DM v' (.fail "") fun p' off' len' cap' ex' esz' => br (Nt p n) (.fail "") (br (Nt p' n) (.fail "") (BE (.sl p off len cap ex esz) (.sl p off' len' cap' ex' esz') (Bt p h1 fun a => Bt p' h' fun b => Ha n (Jf n a) (Jf n b) κ)))) := h
    show Sl n v1 h1 v' h'∧(DM v1 (.fail "") fun p off len cap ex esz => DM v' (.fail "") fun p' off' len' cap' ex' esz' => br (Nt p n) (.fail "") (br (Nt p' n) (.fail "") (BE (.sl p off len cap ex esz) (.sl p off' len' cap' ex' esz') (Bt p h1 fun a => Bt p' h' fun b => Ha n (Jf n a) (Jf n b) κ))))=κ
    rcases Dl h with ⟨_, e1⟩ | ⟨p, off, len, cap, ex, esz, hv, e1⟩
    · rw [e1] at h; exact h.elim
    rw [e1] at h ⊢
    rcases Dl h with ⟨_, e2⟩ | ⟨p', off', len', cap', ex', esz', hv', e2⟩
    · rw [e2] at h; exact h.elim
    rw [e2] at h ⊢
    obtain ⟨a1, e3⟩ := Gd h
    rw [e3] at h ⊢
    obtain ⟨a2, e4⟩ := Gd h
    rw [e4] at h ⊢
    obtain ⟨a3, e5⟩ := El h
    rw [e5] at h ⊢
    rw [Bm, Bm] at h ⊢
    obtain ⟨a4, a5, e6⟩ := Jn h
    rw [e6]
    cases a3
    have n1:n.toN≤p.toN := by
      rcases Nat.lt_or_ge p.toN n.toN with h | h
      · rw [GI.2 h] at a1; cases a1
      · exact h
    have n2:n.toN≤p'.toN := by
      rcases Nat.lt_or_ge p'.toN n.toN with h | h
      · rw [GI.2 h] at a2; cases a2
      · exact h
    exact ⟨.inr ⟨ho, p, p', off, len, cap, ex, esz, hv, hv', n1, n2, a4, a5⟩, rfl⟩
theorem Us (a b:K4) (κ:K4->R):∃ m:K4, UM a b κ=κ m∧a.toN≤m.toN∧b.toN≤m.toN := by
  unfold UM
  cases h:Nat.ble a.toN b.toN with
  | true => exact ⟨b, rfl, Aa.1 h, Nat.le_refl _⟩
  | false =>
    have:¬ a.toN≤b.toN := fun h' => by rw [Aa.2 h'] at h; cases h
    exact ⟨a, rfl, Nat.le_refl _, by omega⟩
/-- All ways are like the first one. -/
def Wp (n:K4) (v1:V) (h1:Heap) (acc:List K4) (m:K4):R->Prop
  | .rv v h n' => Sl n v1 h1 v h∧(∀ p∈acc, A8 p h1=A8 p h ∧ ∀ o, A8 p h1=some o->JH n o)∧n'.toN≤m.toN
  | _ => False
theorem J2 {n:K4} {v1:V} {h1:Heap} {acc:List K4}:∀ {r:R} {mx:K4} {κ:K4->R}, (TQ n v1 h1 acc r mx κ).good->∃ m:K4, mx.toN≤m.toN∧r.sat (Wp n v1 h1 acc m)∧TQ n v1 h1 acc r mx κ=κ m
  | .ok _ _ _ _, mx, κ, h => h.elim
  | .fail _, mx, κ, h => h.elim
  | .rv v h0 n', mx, κ, h => by
    have h:R.good (Ii n v1 h1 v h0 (Gz n h1 h0 acc (UM n' mx κ))) := h
    obtain ⟨a1, e1⟩ := Np h
    rw [e1] at h
    obtain ⟨a2, e2⟩ := In h
    rw [e2] at h
    obtain ⟨m, e3, l1, l2⟩ := Us n' mx κ
    exact ⟨m, l2, ⟨a1, a2, l1⟩, Eq.trans e1 (e2.trans e3)⟩
  | .both a b, mx, κ, h => by
    have h:R.good (TQ n v1 h1 acc a mx fun mx => TQ n v1 h1 acc b mx κ) := h
    obtain ⟨m1, l1, s1, e1⟩ := J2 h
    rw [e1] at h
    obtain ⟨m2, l2, s2, e2⟩ := J2 h
    refine ⟨m2, Nat.le_trans l1 l2, ⟨R.sat_mono (fun r hr => ?_) s1, s2⟩, Eq.trans e1 e2⟩
    cases r with
    | rv v h0 n' => exact ⟨hr.1, hr.2.1, Nat.le_trans hr.2.2 l2⟩
    | ok _ _ _ _ => exact hr
    | fail _ => exact hr
    | both _ _ => exact hr
theorem Jl:∀ {r:R} {κ:V->Heap->R}, (Pr r κ).good->∃ v h, Pr r κ=κ v h
  | .ok _ _ _ _, κ, h => h.elim
  | .fail _, κ, h => h.elim
  | .rv v h0 n', κ, h => ⟨v, h0, rfl⟩
  | .both a b, κ, h => Jl (r := a) h
theorem TK (o:Ob) (h:Heap) (κ:Heap->R):QU o h κ=κ (EL (Cf o) h) := by
  cases o with
  | c cs sup prev =>
    cases prev with
    | none => rfl
    | some q => show BW q h none κ=_; rw [BZ, B6]; rfl
  | m _ _ _ => rfl
  | it _ _ _ _ => rfl
  | it0 => rfl
  | lp _ _ => rfl
/-- What is left when the ways are laid together. -/
structure PutOK (h h1:Heap) (acc:List K4) (hf:Heap):Prop where
  put:∀ q o, A8 q hf=some o->(q∈acc∧A8 q h1=some o)∨(q ∉ acc∧A8 q h=some o ∧ ∀ p∈acc, ∀ op, A8 p h=some op->Cf op≠some q)
theorem KS {h h1:Heap}:∀ {acc:List K4} {κ:Heap->R}, (OH h h1 acc κ).good->∃ hf, PutOK h h1 acc hf∧OH h h1 acc κ=κ hf
  | [], κ, _ => ⟨h, ⟨fun q o hq => .inr ⟨by simp, hq, fun p hp => by simp at hp⟩⟩, rfl⟩
  | p::acc, κ, hg => by
    have hg:R.good (OH h h1 acc fun hf => Bt p h fun o => @Option.rec Ob (fun _ => R) (.fail "") (fun o => QU o hf fun hf => Bt p h1 fun o1 => BW p hf o1 κ) o) := hg
    obtain ⟨hf, ok, e1⟩ := KS hg
    rw [e1] at hg
    have e0:OH h h1 (p::acc) κ=_ := e1
    rw [e0]
    rw [Bm] at hg ⊢
    cases hp:A8 p h with
    | none => rw [hp] at hg; exact hg.elim
    | some op =>
      show ∃ hf', PutOK h h1 (p::acc) hf'∧(QU op hf fun hf => Bt p h1 fun o1 => BW p hf o1 κ)=κ hf'
      rw [TK, Bm, BZ, B6]
      refine ⟨_, ⟨fun q o hq => ?_⟩, rfl⟩
      rcases BA hq with ⟨rfl, e⟩ | ⟨hne, hq⟩
      · exact .inl ⟨List.mem_cons_self .., e⟩
      · obtain ⟨k1, hq⟩ := Dk hq
        rcases ok.put q o hq with ⟨a, b⟩ | ⟨a, b, c⟩
        · exact .inl ⟨List.mem_cons_of_mem _ a, b⟩
        · refine .inr ⟨fun hm => ?_, b, fun p' hp' op' hop' => ?_⟩
          · rcases List.mem_cons.1 hm with e | hm
            · exact hne e.symm
            · exact a hm
          · rcases List.mem_cons.1 hp' with e | hp'
            · subst e; rw [hp] at hop'; cases hop'; exact k1
            · exact c p' hp' op' hop'
section
variable {h hs h1 h' hf:Heap} {acc:List K4} {n n' m:K4} {v1 v:V} {φ φ':AT} {w w':World}
theorem Gr (sub:Sub h hs acc) (put:PutOK h h1 acc hf) (g:Gam ρ B h n φ w) {q:K4} {o:Ob} (hq:q ∉ acc) (ho:A8 q hf=some o) {b s tot:Nat} (hφ:φ q=some (b, s, tot)) {p:K4} (hp:p∈acc) {s' tot':Nat} (hφp:φ p=some (b, s', tot')):False := by
  obtain ⟨op', hop⟩ := sub.has p hp
  obtain ⟨op, k1, _, k2, _⟩ := sub.sub p op' hop
  rcases put.put q o ho with ⟨a, _⟩ | ⟨_, a, c⟩
  · exact hq a
  · have hne:p≠q := fun e => hq (e ▸ hp)
    rcases g.sep p q op o b s' tot' s tot hne k1 a hφp hφ with e | e
    · exact c p hp op k1 e
    · have := g.sup q p o op b s tot s' tot' a e k1 hφ hφp
      cases op with
      | c cs sup prev =>
        have this:sup=true := this
        subst this
        cases k2
      | m _ _ _ => cases this
      | it _ _ _ _ => cases this
      | it0 => cases this
      | lp _ _ => cases this
theorem SJ (sub:Sub h hs acc) (put:PutOK h h1 acc hf) (g:Gam ρ B h n φ w) (f1:Fr hs h' φ φ' n n' w w') {q:K4} {o:Ob} (hq:q ∉ acc) (ho:A8 q hf=some o) {b s tot:Nat} (hφ:φ q=some (b, s, tot)):w'.heap[b]? = w.heap[b]? := by
  refine f1.old b (g.blk q b s tot hφ).2 fun p s' tot' hp => ?_
  cases hx:A8 p hs with
  | none => rfl
  | some o' => exact (Gr sub put g hq ho hφ (sub.mem hx) hp).elim
theorem S7 (sub:Sub h hs acc) (put:PutOK h h1 acc hf) (g:Gam ρ B h n φ w) (f1:Fr hs h' φ φ' n n' w w') (g1:Gam ρ B h' n' φ' w')
    (hacc:∀ p∈acc, A8 p h1=A8 p h' ∧ ∀ o, A8 p h1=some o->JH n o) (hm:n.toN≤m.toN):Gam ρ B hf m φ w'∧Fr h hf φ φ n m w w' := by
  have back:∀ p x, p.toN<n.toN->φ' p=some x->φ p=some x := fun p x hp hx => by
    rcases f1.new p x hx with h | ⟨h, _⟩
    · exact h
    · omega
  have inacc:∀ q o, q∈acc->A8 q hf=some o->A8 q h'=some o∧JH n o := fun q o hq ho => by
    rcases put.put q o ho with ⟨_, a⟩ | ⟨a, _⟩
    · exact ⟨(hacc q hq).1 ▸ a, (hacc q hq).2 o a⟩
    · exact absurd hq a
  have outacc:∀ q o, q ∉ acc->A8 q hf=some o->A8 q h=some o := fun q o hq ho => by
    rcases put.put q o ho with ⟨a, _⟩ | ⟨_, a, _⟩
    · exact absurd a hq
    · exact a
  refine ⟨⟨Nat.le_trans g.base f1.size, fun p x hx => Nat.lt_of_lt_of_le (g.dom p x hx) hm, fun p b s tot hx => ⟨(g.blk p b s tot hx).1, Nat.lt_of_lt_of_le (g.blk p b s tot hx).2 f1.size⟩, fun q o b s tot ho hx => ?_, fun p q o o' b s tot s' tot' hne ho ho' hx hy => ?_, fun p q o o' b s tot s' tot' ho hpr ho' hx hy => ?_, g1.glob⟩,
    ⟨AT.le_refl φ, fun _ _ h => .inl h, hm, f1.os, f1.tape, f1.out, f1.size, fun b hb hn => f1.old b hb fun p s tot hp => ?_, fun _ _ _ _ h => .inl h, fun p hp hn => ?_⟩⟩
  · by_cases hq:q∈acc
    · obtain ⟨a, c⟩ := inacc q o hq ho
      exact KX back c (g1.obj q o b s tot a (f1.ext _ _ hx))
    · exact Cp (SJ sub put g f1 hq ho hx) (g.obj q o b s tot (outacc q o hq ho) hx)
  · by_cases hp:p∈acc
    · by_cases hq:q∈acc
      · exact g1.sep p q o o' b s tot s' tot' hne (inacc p o hp ho).1 (inacc q o' hq ho').1 (f1.ext _ _ hx) (f1.ext _ _ hy)
      · exact (Gr sub put g hq ho' hy hp hx).elim
    · by_cases hq:q∈acc
      · exact (Gr sub put g hp ho hx hq hy).elim
      · exact g.sep p q o o' b s tot s' tot' hne (outacc p o hp ho) (outacc q o' hq ho') hx hy
  · by_cases hp:p∈acc
    · rw [(inacc p o hp ho).2.prev] at hpr; cases hpr
    · by_cases hq:q∈acc
      · exact (Gr sub put g hp ho hx hq hy).elim
      · exact g.sup p q o o' b s tot s' tot' (outacc p o hp ho) hpr (outacc q o' hq ho') hx hy
  · cases hx:A8 p hs with
    | none => rfl
    | some o' => have := hn p s tot hp; obtain ⟨o0, e0⟩ := sub.in_h hx; rw [e0] at this; cases this
  · cases hx:A8 p hf with
    | none => rfl
    | some o =>
      exfalso
      by_cases hq:p∈acc
      · obtain ⟨o', ho'⟩ := sub.has p hq
        obtain ⟨o0, e0⟩ := sub.in_h ho'
        rw [e0] at hn; cases hn
      · rw [outacc p o hq hx] at hn; cases hn
theorem Xg (sub:Sub h hs acc) (put:PutOK h h1 acc hf) (g:Gam ρ B h n φ w) (f1:Fr hs h' φ φ' n n' w w') (g1:Gam ρ B h' n' φ' w') {x:Value} (r1:As ρ φ' v x)
    (way:Wp n v1 h1 acc m (.rv v h' n')) (hm:n.toN≤m.toN) {vf:V} {hff:Heap} {nf:K4} (hres:WP n v1 h1 hf m = .rv vf hff nf) :
    ∃ φ'', Fr h hff φ φ'' n nf w w'∧Gam ρ B hff nf φ'' w'∧As ρ φ'' vf x := by
  obtain ⟨res, hacc, hn'⟩ := way
  obtain ⟨gb, fb⟩ := S7 sub put g f1 g1 hacc hm
  have back:∀ p x, p.toN<n.toN->φ' p=some x->φ p=some x := fun p x hp hx => by
    rcases f1.new p x hx with h | ⟨h, _⟩
    · exact h
    · omega
  unfold WP at hres
  rcases res with ⟨ho, e⟩ | ⟨ho, p, p', off, len, cap, ex, esz, e1, e2, hp, hp', heq, hold⟩
  · subst e
    rw [ho] at hres
    have hres:R.rv v1 hf m=R.rv vf hff nf := hres
    cases hres
    exact ⟨φ, fb, gb, EW back ho r1⟩
  · rw [ho] at hres
    subst e1 e2
    have hres:(Bt p h1 fun o => @Option.rec Ob (fun _ => R) (.fail "") (fun ob => BW m hf (some ob) fun hf => m.nx fun m' => .rv (.sl m off len cap ex esz) hf m') (Jf n o)) = .rv vf hff nf := hres
    rw [Bm] at hres
    cases hob:Jf n (A8 p h1) with
    | none => rw [hob] at hres; cases hres
    | some ob =>
      rw [hob] at hres
      have hres:(BW m hf (some ob) fun hf => m.nx fun m' => .rv (.sl m off len cap ex esz) hf m') = .rv vf hff nf := hres
      rw [BZ, B6] at hres
      rcases K4.nx_eq m (fun m' => .rv (.sl m off len cap ex esz) (Af m hf (some ob)) m') with ⟨why, e⟩ | ⟨m', hm', e⟩
      · rw [e] at hres; cases hres
      rw [e] at hres
      cases hres
      have hOld := hold ob hob
      obtain ⟨obr, hob', hpv, hcl⟩ := RN (heq ▸ hob)
      obtain ⟨b', s', tot', o, cap', hφ', gx, c1, c2, c3, c4⟩ := CW r1
      have hmn:φ m=none := by
        cases hx:φ m with
        | none => rfl
        | some x => have := g.dom m x hx; omega
      have hoblk := g1.blk p' b' s' tot' hφ'
      -- no object that was there lies in that block
      have apart:∀ q oq, A8 q hf=some oq->∀ s tot, φ q=some (b', s, tot)->False := fun q oq hq s tot hx => by
        have hqn := g.dom q _ hx
        have hne:p'≠q := fun e => by rw [e] at hp'; omega
        by_cases hqa:q∈acc
        · rcases put.put q oq hq with ⟨_, a⟩ | ⟨a, _⟩
          · have a':A8 q h'=some oq := (hacc q hqa).1 ▸ a
            rcases g1.sep p' q obr oq b' s' tot' s tot hne hob' a' hφ' (f1.ext _ _ hx) with e | e
            · have := hpv hOld.prev q e; omega
            · rw [((hacc q hqa).2 oq a).prev] at e; cases e
          · exact a hqa
        · rcases f1.fresh p' b' s' tot' hφ' with h | h | ⟨r, sr, tr, hr, hne'⟩
          · have := g.dom p' _ h; omega
          · have := (g.blk q b' s tot hx).2; omega
          · cases hx':A8 r hs with
            | none => exact hne' hx'
            | some o' => exact Gr sub put g hqa hq hx (sub.mem hx') hr
      refine ⟨EG φ m (b', s', tot'), ⟨AT.le_trans fb.ext (D5 hmn), fun q y hy => ?_, by omega, fb.os, fb.tape, fb.out, fb.size, fb.old, fun q b s t hx => ?_, fun q hq hn => ?_⟩, ⟨gb.base, fun q y hy => ?_, fun q b s t hy => ?_, fun q oq b s t hq hy => ?_, fun q r oq or b s t s2 t2 hne hq hr hx hy => ?_, fun q r oq or b s t s2 t2 hq hpr hr hx hy => ?_, gb.glob⟩, ?_⟩
      · rcases AI hy with ⟨rfl, _⟩ | ⟨_, hy⟩
        · exact .inr ⟨hm, by omega⟩
        · exact .inl hy
      · rcases AI hx with ⟨rfl, e⟩ | ⟨_, hx⟩
        · cases e
          rcases f1.fresh p' b' s' tot' hφ' with h | h | ⟨r, sr, tr, hr, hne'⟩
          · have := g.dom p' _ h; omega
          · exact .inr (.inl h)
          · refine .inr (.inr ⟨r, sr, tr, hr, ?_⟩)
            cases hx':A8 r hs with
            | none => exact absurd hx' hne'
            | some o' => obtain ⟨o0, e0⟩ := sub.in_h hx'; rw [e0]; simp
        · exact .inl hx
      · have hne:m≠q := fun e => hq (e ▸ hmn)
        rw [A7 _ _ hne]
        exact fb.dm q hq hn
      · rcases AI hy with ⟨rfl, _⟩ | ⟨_, hy⟩
        · omega
        · have := gb.dom q y hy; omega
      · rcases AI hy with ⟨rfl, e⟩ | ⟨_, hy⟩
        · cases e; exact hoblk
        · exact gb.blk q b s t hy
      · rcases AI hy with ⟨rfl, e⟩ | ⟨hne, hy⟩
        · cases e
          rw [A6] at hq; cases hq
          refine KX (φ1 := φ') (fun q y hq hy => ?_) hOld (hcl (g1.obj p' obr _ _ _ hob' hφ'))
          rw [Hv fun e => by subst e; omega]
          exact back q y hq hy
        · rw [A7 _ _ hne] at hq
          exact E6 (D5 hmn) (gb.obj q oq b s t hq hy)
      · rcases AI hx with ⟨rfl, e⟩ | ⟨hq', hx⟩
        · cases e
          rcases AI hy with ⟨e, _⟩ | ⟨hr', hy⟩
          · exact absurd e hne
          · rw [A7 _ _ hr'] at hr
            exact (apart r or hr s2 t2 hy).elim
        · rw [A7 _ _ hq'] at hq
          rcases AI hy with ⟨rfl, e⟩ | ⟨hr', hy⟩
          · cases e
            exact (apart q oq hq s t hx).elim
          · rw [A7 _ _ hr'] at hr
            exact gb.sep q r oq or b s t s2 t2 hne hq hr hx hy
      · rcases AI hx with ⟨rfl, e⟩ | ⟨hq', hx⟩
        · rw [A6] at hq; cases hq
          rw [hOld.prev] at hpr; cases hpr
        · rw [A7 _ _ hq'] at hq
          rcases AI hy with ⟨rfl, e⟩ | ⟨hr', hy⟩
          · cases e
            exact (apart q oq hq s t hx).elim
          · rw [A7 _ _ hr'] at hr
            exact gb.sup q r oq or b s t s2 t2 hq hpr hr hx hy
      · rw [gx]
        simp only [As]
        exact ⟨b', s', tot', o, cap', Cj _ _ _, rfl, c1, c2, c3, c4⟩
end
/-- A CALL WHOSE WAYS ARE LAID TOGETHER IS SOUND. -/
theorem WZ {f:FuncId} {run:Heap->R} {k:Nat} {args:List V} {h:Heap} {n:K4} {v:V} {h1:Heap} {n1:K4} (hr:Zy k run args h n = .rv v h1 n1) {φ:AT} {w:World} {xs:Array Value} (g:Gam ρ B h n φ w) (hxs:By ρ φ args xs.toList)
    (H:∀ (hs:Heap) (Φ:R->Prop), (run hs).sat Φ->Gam ρ B hs n φ w->Le P f xs w fun x w' => ∃ v h1 n1 φ', Φ (.rv v h1 n1)∧Fr hs h1 φ φ' n n1 w w'∧Gam ρ B h1 n1 φ' w'∧As ρ φ' v x) :
    Le P f xs w fun x w' => ∃ φ', Fr h h1 φ φ' n n1 w w'∧Gam ρ B h1 n1 φ' w'∧As ρ φ' v x := by
  unfold Zy at hr
  obtain ⟨hs, acc, sub, e1⟩ := FX k (todo := WT args []) (κ := fun hs acc => Wy n h acc (run hs)) (Sub.nil (h := h))
  rw [e1] at hr
  unfold Wy at hr
  obtain ⟨v1, hh1, e2⟩ := Jl (by rw [hr]; trivial)
  rw [e2] at hr
  obtain ⟨m, hm, sat, e3⟩ := J2 (by rw [hr]; trivial)
  rw [e3] at hr
  obtain ⟨hf, put, e4⟩ := KS (by rw [hr]; trivial)
  rw [e4] at hr
  have gs:Gam ρ B hs n φ w := by
    refine ⟨g.base, g.dom, g.blk, fun p o b s tot hp hx => ?_, fun p q o o' b s tot s' tot' hne hp hq hx hy => ?_, fun p q o o' b s tot s' tot' hp hpr hq hx hy => ?_, g.glob⟩
    · obtain ⟨o0, e0, rfl, _⟩ := sub.sub p o hp
      exact Vb (g.obj p o0 b s tot e0 hx)
    · exfalso
      obtain ⟨o0, e0, _, g0, _⟩ := sub.sub p o hp
      obtain ⟨o1, e1, _, g1, _⟩ := sub.sub q o' hq
      have no:∀ (ob:Ob), I3 ob=true->Jh ob=true->False := fun ob h1 h2 => by
        cases ob with
        | c cs sup prev =>
          cases sup with
          | true => cases h1
          | false => cases h2
        | _ => cases h2
      rcases g.sep p q o0 o1 b s tot s' tot' hne e0 e1 hx hy with h | h
      · exact no o1 g1 (g.sup p q o0 o1 b s tot s' tot' e0 h e1 hx hy)
      · exact no o0 g0 (g.sup q p o1 o0 b s' tot' s tot e1 h e0 hy hx)
    · obtain ⟨o0, e0, rfl, _⟩ := sub.sub p o hp
      rw [RF] at hpr; cases hpr
  intro o a K Q hK
  refine H hs _ sat gs o a K Q fun x w' ⟨v', h', n', φ', way, f1, g1, r1⟩ => hK x w' ?_
  exact Xg sub put g f1 g1 r1 way hm hr
end
end Go.Ev

namespace Go.Ev
set_option linter.unusedVariables false
open Go.RowKit
/-- One round: the parameter, then the body. -/
abbrev rdK (pb px:K2) (al bl:List AOp) (cf:DZ) (b x:V) (h:Heap) (n:K4):R :=
  Dy [] cf al [(px, x), (pb, b)] Fi h n fun env t h n => Dy [] cf bl env t h n fun _ _ h n => .rv (.bool true) h n
abbrev Rd := DZ->V->V->Heap->K4->R
def Nk (l:List Oper):Bool := l.all fun o => match o.op with | .defer _ => false | _ => true
theorem Jt {l:List Oper} (h:Nk l=true):∀ o∈l, ∀ c, o.op ≠ .defer c := fun o ho c e => by
  have := List.all_eq_true.1 h o ho
  rw [e] at this; cases this
def Qc:Code->Option (Array Oper)
  | .region _ ops false => some ops
  | _ => none
def SD:Code->Option (Array Oper)
  | .block _ c => Qc c
  | _ => none
/-- The round's text, and whether it is one. -/
def TV (P:Program) (A:ApC):Option Rd :=
  match Qc A.asg, SD A.bod, K2.ofN A.par, K2.ofN A.box with
  | some oa, some ob, some px, some pb => match HM P A.ntm oa oa.toList, HM P A.ntm ob ob.toList with
    | some al, some bl => if GQ [] al [px, pb]&&(GQ [] bl (D4 al [px, pb])&&(Nk oa.toList&&(Nk ob.toList&&(Nat.blt A.par A.ntm&&(Nat.blt A.box A.ntm && !(A.par == A.box)))))) then some (rdK pb px al bl) else none
    | _, _ => none
  | _, _, _, _ => none
theorem JX {c:Code} {ops:Array Oper} (h:Qc c=some ops):∃ i, c = .region i ops false := by
  unfold Qc at h
  split at h
  · cases h; exact ⟨_, rfl⟩
  · cases h
theorem PG {c:Code} {ops:Array Oper} (h:SD c=some ops):∃ i j, c = .block i (.region j ops false) := by
  unfold SD at h
  split at h
  · obtain ⟨j, rfl⟩ := JX h; exact ⟨_, j, rfl⟩
  · cases h
/-- The function. -/
def Lq (P:Program) (f:FuncId):Option ApC :=
  match P.funcs[f]? with
  | some fn => match fn.body with
    | some (.seq (.region _ r0 false) (.seq (.seq (.region _ r1 false) (.block _ (.rangeFunc (.tmp s6) ps asg bod))) (.seq (.region _ r4 false) .ret))) =>
      match r0.toList, r1.toList, r4.toList, ps.toList, fn.results.toList with
      | [o1, o2], [o3], [o4, o5], [par], [.tmp s4] => match o1.op, o2.op, o3.op, o4.op, o5.op with
        | .box _ (.tmp s0), .assign (.const c2), .move (.tmp s1), .load tL (.tmp s2), .assign (.tmp s12) =>
          if (fn.name == "runtime.NumGoroutine")=false∧fn.ntmps=13∧s6=6∧s4=4∧s0=0∧s1=1∧s2=2∧s12=12∧o1.dst=some 2∧o2.dst=some 4∧o3.dst=some 6∧o4.dst=some 12∧o5.dst=some 4 ∧
            o1.guard=none∧o2.guard=none∧o3.guard=none∧o4.guard=none∧o5.guard=none∧KO P tL=some false then some ⟨asg, bod, par, 2, 13⟩ else none
        | _, _, _, _, _ => none
      | _, _, _, _, _ => none
    | _ => none
  | none => none
def Nz (l:List V) (κ:V->List V->R):R := @List.rec V (fun _ => R) (.fail "") (fun x xs _ => κ x xs) l
def T8 (l:List V) (κ:R):R := @List.rec V (fun _ => R) κ (Cb "") l
def Pp (v:V) (κ:R):R :=
  @V.rec (fun _ => R) (fun _ => Unit) (AG "") (AV "") (AG "") (DN "") (AG "") (AG "")
    (fun u => @Nl.rec (fun _ => R) (.fail "") κ (.fail "") (.fail "") (.fail "") u) (AV "") (Cb "") (AG "") (AV "") () (fun _ _ _ _ => ()) v
def Tq (v:V) (κ:Nat->List V->R):R :=
  @V.rec (fun _ => R) (fun _ => Unit) (AG "") (AV "") (AG "") (DN "") (AG "") (AG "") (AV "") (AV "")
    (fun f caps _ => κ f caps) (AG "") (AV "") () (fun _ _ _ _ => ()) v
def WX (o:Cx) (κ:R):R := @Option.rec Ob (fun _ => R) (.fail "") (fun o => @Ob.rec (fun _ => R) (Cb "") (Cb "") (Fp "") (.fail "") (fun _ _ => κ) o) o
def Mi (g:Nat) (l:List Nat) (κ:R):R := @List.rec Nat (fun _ => R) (.fail "") (fun x _ ih => br (Nat.beq x g) κ ih) l
def X6 (f:Nat) (its:List Nat) (cf:DZ) (args:List V) (h:Heap) (n:K4):R :=
  Nz args fun v l => Nz l fun s l => T8 l (Pp v (Tq s fun g caps => Mi g its
    (BW n h (some (.c (.l [.nil .sl]) false none)) fun h => n.nx fun n1 => BW n1 h (some (.lp f n)) fun h => n1.nx fun n2 =>
      EI (cf (Bz g) (.oth (.yl n1)::caps) h n2) fun _ h m =>
        Bt n1 h fun o => WX o (Nm n h fun cs _ _ => Ge cs 0 fun sv => BW n h none fun h => BW n1 h none fun h => .rv sv h m))))
section
variable {P:Program} {ρ:Env} {B:Nat} {h:Heap} {n:K4}
/-- No object tells of a block. -/
def Vo (φ:AT) (h:Heap) (l:Nat):Prop := ∀ q s tot, φ q=some (l, s, tot)->A8 q h=none
theorem Vo.step {φ φ1:AT} {h1:Heap} {n1:K4} {w w1:World} {l:Nat} (u:Vo φ h l) (hl:l<w.heap.size) (f:Fr h h1 φ φ1 n n1 w w1):Vo φ1 h1 l := fun q s tot hq => by
  rcases f.fresh q l s tot hq with e | e | ⟨r, s', tot', hr, hne⟩
  · exact f.dm q (by rw [e]; simp) (u q s tot e)
  · omega
  · exact absurd (u r s' tot' hr) hne
theorem Gam.poke {φ:AT} {w:World} (g:Gam ρ B h n φ w) {l:Nat} (u:Vo φ h l) (O:Obj) (hno:∀ c e fr, w.heap[l]? ≠ some (.cells c e fr)):Gam ρ B h n φ (w.putObj l O) where
  glob := fun k c e fr hk => ⟨(g.glob k c e fr hk).1, by rw [World.putObj_heap_other (fun e' => by subst e'; exact hno _ _ _ (g.glob _ c e fr hk).2)]; exact (g.glob k c e fr hk).2⟩
  base := by rw [World.putObj_size]; exact g.base
  dom := g.dom
  blk := fun p b s t hp => by rw [World.putObj_size]; exact g.blk p b s t hp
  obj := fun p o b s t hp hφ => by
    refine Cp (World.putObj_heap_other fun e => ?_) (g.obj p o b s t hp hφ)
    subst e
    rw [u p s t hφ] at hp; cases hp
  sep := g.sep
  sup := g.sup
/-- A block is other for a while. -/
theorem Fr.around {h1:Heap} {n1:K4} {φ φ1:AT} {w W:World} {l:Nat} {O O0:Obj} (hl:w.heap[l]? = some O0) (f:Fr h h1 φ φ1 n n1 (w.putObj l O) W):Fr h h1 φ φ1 n n1 w (W.putObj l O0) := by
  have hlt:l<w.heap.size := by
    rcases Nat.lt_or_ge l w.heap.size with e | e
    · exact e
    · rw [Array.getElem?_eq_none e] at hl; cases hl
  have hs := f.size
  rw [World.putObj_size] at hs
  refine ⟨f.ext, f.new, f.nn, f.os, f.tape, f.out, by rw [World.putObj_size]; exact hs, fun b hb hn => ?_, fun q b s t hq => ?_, f.dm⟩
  · by_cases e:b=l
    · subst e; rw [World.putObj_heap_same (by omega), hl]
    · rw [World.putObj_heap_other e, f.old b (by rw [World.putObj_size]; exact hb) hn, World.putObj_heap_other e]
  · have := f.fresh q b s t hq
    rwa [World.putObj_size] at this
/-- A new block is other behind. -/
theorem Fr.poke {h1:Heap} {n1:K4} {φ φ1:AT} {w W:World} {l:Nat} (O:Obj) (hl:w.heap.size≤l) (f:Fr h h1 φ φ1 n n1 w W):Fr h h1 φ φ1 n n1 w (W.putObj l O) :=
  ⟨f.ext, f.new, f.nn, f.os, f.tape, f.out, by rw [World.putObj_size]; exact f.size, fun b hb hn => by rw [World.putObj_heap_other (by omega)]; exact f.old b hb hn, f.fresh, f.dm⟩
def V1:Regs := Regs.all (VP.all (.oth .any))
theorem Rc (p:K2):Bg p V1 = .oth .any := by simp only [Bg, V1, Regs.sel_all, VP.sel_all]
/-- The round is sound. -/
theorem YK (hρ:Bo ρ) {cf:CF} {cf2:DZ} (hcf:E9 P ρ B cf) (h2:∀ f, cf2 (Bz f)=cf f) {A:ApC} {rd:Rd} (hrd:TV P A=some rd) {fn:FuncId} {box:K4} {x:V} {Φ:R->Prop}
    (hs:(rd cf2 (.ptr box 0) x h n).sat Φ) {φ:AT} {w:World} {tmps:Array Value} {X:Value} {l D:Nat} (g:Gam ρ B h n φ w) (hl:w.heap[l]? = some (.loop (FG A fn tmps D))) (u:Vo φ h l)
    (hsz:tmps.size=A.ntm) (hbox:As ρ φ (.ptr box 0) (tmps.getD A.box undef)) (hX:As ρ φ x X) :
    RoundIn Fence.wide 0 P l fn (tmps.setIfInBounds A.par X) A.asg A.bod w fun e w' => e = .returned (.bool true) ∧
      ∃ v h1 n1 φ', v = .bool true∧Φ (.rv v h1 n1)∧Fr h h1 φ φ' n n1 w w'∧Gam ρ B h1 n1 φ' w' := by
  unfold TV at hrd
  split at hrd
  · rename_i oa ob px pb ha hb hpx hpb
    split at hrd
    · rename_i al bl hal hbl
      split at hrd
      · rename_i hok
        cases hrd
        simp only [Bool.and_eq_true, Nat.blt_eq] at hok
        obtain ⟨ok1, ok2, nd1, nd2, lt1, lt2, hne⟩ := hok
        have hne:A.par≠A.box := by simpa using hne
        obtain ⟨i, hasg⟩ := JX ha
        obtain ⟨j, k, hbod⟩ := PG hb
        have hlt:l<w.heap.size := by
          rcases Nat.lt_or_ge l w.heap.size with e | e
          · exact e
          · rw [Array.getElem?_eq_none e] at hl; cases hl
        have hpp:px≠pb := fun e => hne (K2.ofN_inj hpx (e ▸ hpb))
        have ri:RI [] [px, pb] [(px, x), (pb, .ptr box 0)] (EM px (EM pb V1 (.ptr box 0)) x) Fi := by
          refine ⟨fun h => (by cases h), fun p v hp => ?_, fun p hp => ?_, fun p s h => (by cases h)⟩
          · by_cases e:px=p
            · subst e; rw [DD] at hp; cases hp; exact B7 _ _ _
            · rw [Gi e] at hp
              rw [Bx _ _ e]
              by_cases e':pb=p
              · subst e'; rw [DD] at hp; cases hp; exact B7 _ _ _
              · rw [Gi e'] at hp; simp [Ft] at hp
          · by_cases e:px=p
            · subst e; exact ⟨x, DD⟩
            · rw [Gi e]
              by_cases e':pb=p
              · subst e'; exact ⟨_, DD⟩
              · simp at hp; rcases hp with hp | hp
                · exact absurd hp.symm e
                · exact absurd hp.symm e'
        have hT:TR ρ A.ntm φ (EM px (EM pb V1 (.ptr box 0)) x) { tmps := tmps.setIfInBounds A.par X, defers := [] } := {
          size := by simp [hsz]
          defers := rfl
          at_ := fun s p hs hp => by
            show As ρ φ _ ((tmps.setIfInBounds A.par X).getD s undef)
            by_cases e:A.par=s
            · subst e
              rw [hpx] at hp; cases hp
              rw [B7, Array.getD_eq_getD_getElem?, Array.getElem?_setIfInBounds_self_of_lt (by omega)]
              exact hX
            · rw [Bx _ _ (fun e' => e (K2.ofN_inj hpx (by rw [e']; exact hp))), Array.getD_eq_getD_getElem?, Array.getElem?_setIfInBounds_ne e, ←Array.getD_eq_getD_getElem?]
              by_cases e2:A.box=s
              · subst e2
                rw [hpb] at hp; cases hp
                rw [B7]; exact hbox
              · rw [Bx _ _ (fun e' => e2 (K2.ofN_inj hpb (by rw [e']; exact hp))), Rc]
                simp only [As] }
        have hs:(Dy [] cf2 al [(px, x), (pb, .ptr box 0)] Fi h n fun env t h n => Dy [] cf2 bl env t h n fun _ _ h n => .rv (.bool true) h n).sat Φ := hs
        obtain ⟨env1, t1, t1', h1, n1, e1, ri1, H1⟩ := DG (B := B) (ops := oa) hρ hcf h2 hal ok1 ri (R.sat_good hs)
        rw [e1] at hs
        obtain ⟨env2, t2, t2', h2', n2, e2, ri2, H2⟩ := DG (B := B) (ops := ob) hρ hcf h2 hbl ok2 ri1 (R.sat_good hs)
        rw [e2] at hs
        have hs:Φ (.rv (.bool true) h2' n2) := hs
        refine roundIn_of_wpIn trivial ?_
        rw [hasg, hbod]
        have c1 := E7 (l := some l) (n := 0) (r := []) (.inr (Jt nd1)) (H1 φ _ w hT g (Exit.then (fun a₁ w₁ => ∃ w₂, (Instr.beginRound l).run P w₁ = .ok () w₂∧(Code.block j (.region k ob false)).wpIn (Fence.wide.inRound l) 0 P (roundPost P l (fun e w' => e = .returned (.bool true) ∧
            ∃ v h1 n1 φ', v = .bool true∧Φ (.rv v h1 n1)∧Fr h h1 φ φ' n n1 w w'∧Gam ρ B h1 n1 φ' w')) a₁ w₂) (fun _ _ _ => False)) (wpListIn (MU (some l)) 0 P oa _ []) fun φ1 a1 w1 f1 g1 T1 => wpListIn_nil (F := MU (some l)) ?_)
        · rw [List.append_nil] at c1
          exact wpIn_region_list c1
        · have u1 := u.step hlt f1
          have hl1:w1.heap[l]? = some (.loop (FG A fn tmps D)) := (f1.old l hlt u).trans hl
          refine ⟨_, run_beginRound hl1 rfl, wpIn_block (wpIn_region_list ?_)⟩
          have g1' := g1.poke u1 (.loop { FG A fn tmps D with state := .busy }) (fun c e fr h => by rw [hl1] at h; cases h)
          have c2 := E7 (l := some l) (n := 0) (r := []) (.inr (Jt nd2)) (H2 φ1 a1 _ T1 g1' (Exit.inBlock j (roundPost P l (fun e w' => e = .returned (.bool true) ∧
            ∃ v h1 n1 φ', v = .bool true∧Φ (.rv v h1 n1)∧Fr h h1 φ φ' n n1 w w'∧Gam ρ B h1 n1 φ' w'))) (wpListIn (MU (some l)) 0 P ob _ []) fun φ2 a2 w2 f2 g2 T2 => wpListIn_nil (F := MU (some l)) ?_)
          · rw [List.append_nil] at c2; exact c2
          · have hlt1:l<(w1.putObj l (.loop { FG A fn tmps D with state := .busy })).heap.size := by rw [World.putObj_size]; have := f1.size; omega
            have u2 := u1.step hlt1 f2
            have hl2:w2.heap[l]? = some (.loop { FG A fn tmps D with state := .busy }) := (f2.old l hlt1 u1).trans (World.putObj_heap_same (by rwa [World.putObj_size] at hlt1))
            exact ⟨_, _, run_endRound none hl2, rfl, _, h2', n2, φ2, rfl, hs, Fr.trans f1 (f2.around hl1), g2.poke u2 _ (fun c e fr h => by rw [hl2] at h; cases h)⟩
      · cases hrd
    · cases hrd
  · cases hrd
/-- It has a body. -/
def JN (P:Program) (g:FuncId):Prop := ∃ fn c, P.funcs[g]? = some fn∧fn.body=some c∧(fn.name == "runtime.NumGoroutine")=false
theorem GX {l:List V} {κ:V->List V->R} (hg:(Nz l κ).good):∃ x xs, l=x::xs∧Nz l κ=κ x xs := by
  cases l with
  | nil => exact hg.elim
  | cons x xs => exact ⟨x, xs, rfl, rfl⟩
theorem Ol {l:List V} {κ:R} (hg:(T8 l κ).good):l=[]∧T8 l κ=κ := by
  cases l with
  | nil => exact ⟨rfl, rfl⟩
  | cons x xs => exact hg.elim
theorem NP {v:V} {κ:R} (hg:(Pp v κ).good):v = .nil .sl∧Pp v κ=κ := by
  cases v with
  | nil u => cases u with
    | sl => exact ⟨rfl, rfl⟩
    | _ => exact hg.elim
  | _ => exact hg.elim
theorem PC {v:V} {κ:Nat->List V->R} (hg:(Tq v κ).good):∃ f l, v = .fn f l∧Tq v κ=κ f l := by
  cases v with
  | fn f l => exact ⟨f, l, rfl, rfl⟩
  | _ => exact hg.elim
theorem SX {o:Cx} {κ:R} (hg:(WX o κ).good):(∃ f b, o=some (.lp f b))∧WX o κ=κ := by
  cases o with
  | none => exact hg.elim
  | some ob => cases ob with
    | lp f b => exact ⟨⟨f, b, rfl⟩, rfl⟩
    | _ => exact hg.elim
theorem Kn {g:Nat}:∀ {l:List Nat} {κ:R}, (Mi g l κ).good->g∈l∧Mi g l κ=κ
  | [], κ, hg => hg.elim
  | x::l, κ, hg => by
    have hg:R.good (br (Nat.beq x g) κ (Mi g l κ)) := hg
    show _∧br (Nat.beq x g) κ (Mi g l κ)=κ
    cases hb:Nat.beq x g with
    | true => exact ⟨by rw [Nat.eq_of_beq_eq_true hb]; exact List.mem_cons_self .., rfl⟩
    | false =>
      rw [hb] at hg
      obtain ⟨h1, h2⟩ := Kn (show R.good (Mi g l κ) from hg)
      exact ⟨List.mem_cons_of_mem _ h1, h2⟩
theorem Fc {o:Oper} {a:Act} {w w':World} {x:Value} {K:Act->World->Prop} {Q:Exit->Act->World->Prop} (hr:(execOp a.eval o).run P w = .ok (.value x) w') (hK:K (a.put o.dst x) w'):o.wpIn Fence.wide 0 P a w K Q :=
  QQ (l := none) (.inl rfl) (fun _ _ h => h) (show o.wp P a w K Q by unfold Oper.wp; rw [hr]; exact hK)
/-- The function is sound. -/
theorem XS {f:FuncId} {its:List Nat} {A:ApC} (hA:ρ.ap f=some A) (hsh:Lq P f=some A) (hits:∀ g∈its, JN P g) {cf:CF} {cf2:DZ} (hcf:IT P ρ B cf) (h2:∀ f, cf2 (Bz f)=cf f) {args:List V} {Φ:R->Prop}
    (hr:(X6 f its cf2 args h n).sat Φ) {φ:AT} {w:World} {xs:Array Value} (g:Gam ρ B h n φ w) (hxs:By ρ φ args xs.toList) :
    Le P f xs w fun x w' => ∃ v h1 n1 φ', Φ (.rv v h1 n1)∧Fr h h1 φ φ' n n1 w w'∧Gam ρ B h1 n1 φ' w'∧As ρ φ' v x := by
  unfold Lq at hsh
  split at hsh
  next fn hfn =>
    split at hsh
    next i0 r0 i1 r1 b0 s6 ps asg bod i4 r4 hbody =>
      split at hsh
      next o1 o2 o3 o4 o5 par s4 e0 e1 e4 eps ers =>
        split at hsh
        next tS s0 c2 s1 tL s2 s12 p1 p2 p3 p4 p5 =>
          split at hsh
          next hc =>
            obtain ⟨hname, hnt, rfl, rfl, rfl, rfl, rfl, rfl, d1, d2, d3, d4, d5, g1, g2, g3, g4, g5, hagg⟩ := hc
            cases hsh
            have hname:(fn.name == "runtime.NumGoroutine")=false := hname
            -- the arguments
            unfold X6 at hr
            obtain ⟨v, l, rfl, q1⟩ := GX (R.sat_good hr)
            rw [q1] at hr
            obtain ⟨s, l, rfl, q2⟩ := GX (R.sat_good hr)
            rw [q2] at hr
            obtain ⟨rfl, q3⟩ := Ol (R.sat_good hr)
            rw [q3] at hr
            obtain ⟨rfl, q4⟩ := NP (R.sat_good hr)
            rw [q4] at hr
            obtain ⟨it, caps, rfl, q5⟩ := PC (R.sat_good hr)
            rw [q5] at hr
            obtain ⟨hmem, q6⟩ := Kn (R.sat_good hr)
            rw [q6, BZ, B6] at hr
            rcases K4.nx_eq n _ with ⟨m, e⟩ | ⟨n1, hn1, e⟩
            · rw [e] at hr; exact hr.elim
            rw [e, BZ, B6] at hr
            rcases K4.nx_eq n1 _ with ⟨m, e⟩ | ⟨n2, hn2, e'⟩
            · rw [e] at hr; exact hr.elim
            rw [e'] at hr
            have hr := Ej hr
            rw [h2] at hr
            obtain ⟨X0, l0, hx0, r0', hl0⟩ := Aw.1 hxs
            obtain ⟨X1, l1, rfl, r1', hl1⟩ := Aw.1 hl0
            have hl1 := AF.1 hl1
            subst hl1
            have hX0 := Cd r0'
            obtain ⟨cs, hX1, rcs⟩ := Jc r1'
            have hps:ps = #[par] := by cases ps; simp at eps; rw [eps]
            have hres:fn.results = #[.tmp 4] := by cases hh:fn.results with | mk l => rw [hh] at ers; simp at ers; rw [ers]
            -- the box
            obtain ⟨ga, fa⟩ := CM g (n' := n1) hn1 (e := tS) (fr := (0, 0)) (c := #[X0]) (cs := .l [.nil .sl]) (by simp [Cs.len]) (JE _)
              (by have := Ee (ρ := ρ) (φ := φ) (l := [.nil .sl]) (xs := [X0]) (Aw.2 ⟨X0, [], rfl, r0', AF.2 rfl⟩) (by simp [hX0, Ci, Value.oneCell']); simpa using this)
            generalize hW0:w.alloc (.cells #[X0] tS (0, 0))=W0 at ga fa
            have hb0:W0.heap[w.heap.size]? = some (.cells #[X0] tS (0, 0)) := by rw [←hW0]; exact World.alloc_heap_new w _
            have gb := ga.push (.deferred (some []))
            have fb := Fr.trans fa (Fr.push (h := Af n h (some (.c (.l [.nil .sl]) false none))) (n := n1) (φ := EG φ n (w.heap.size, 0, (#[X0]:Array Value).size)) (.deferred (some [])))
            have hs0:W0.heap.size=w.heap.size+1 := by rw [←hW0, World.size_alloc]
            generalize htm:((((#[X0, X1]:Array Value)++Array.replicate (fn.ntmps - 2) undef).setIfInBounds 2 (.pointer (some ⟨w.heap.size, 0, none⟩))).setIfInBounds 4 c2).setIfInBounds 6 X1=tm
            have htsz:tm.size=13 := by rw [←htm, hnt]; simp
            have ht2:tm.getD 2 undef = .pointer (some ⟨w.heap.size, 0, none⟩) := by rw [←htm, hnt]; simp [Array.getD_eq_getD_getElem?]
            have ht6:tm.getD 6 undef=X1 := by rw [←htm, hnt]; simp [Array.getD_eq_getD_getElem?]
            intro o a K Q hK
            have hcf':(callFunc f #[X0, X1]).run P w = .ok (.enter f #[X0, X1]) w := by
              have hname':fn.name ≠ "runtime.NumGoroutine" := by simpa using hname
              simp [callFunc, hfn, hname', hbody]
            have hxe:xs = #[X0, X1] := by cases xs; simp at hx0; rw [hx0]
            rw [hxe, hcf']
            refine (callsIn_wide (n := 0)).1 (callsIn_of_wp_marks hfn hbody trivial ?_ rfl)
            have ev0:Act.eval { tmps := (#[X0, X1]:Array Value)++Array.replicate (fn.ntmps - (#[X0, X1]:Array Value).size) undef, defers := [] } (.tmp 0)=X0 := by
              simp [Act.eval, Array.getD_eq_getD_getElem?, Array.getElem?_append]
            have hcl:X0.cells = #[X0] := by rw [hX0]; rfl
            refine wpIn_seq (wpIn_region_list ?_)
            rw [e0]
            refine wpListIn_plain g1 fun K1 hK1 => Fc (x := .pointer (some ⟨w.heap.size, 0, none⟩)) (w' := W0) (by rw [←hW0]; simp only [execOp, p1, ev0]; simp [Instr.box, newVar, Fl, hcl]) (hK1 _ _ ?_)
            refine wpListIn_plain g2 fun K2 hK2 => Fc (x := c2) (w' := W0) (by simp [execOp, p2, Act.eval]) (hK2 _ _ ?_)
            refine wpListIn_nil ?_
            refine wpIn_seq (wpIn_seq (wpIn_region_list ?_))
            rw [e1]
            refine wpListIn_plain g3 fun K3 hK3 => Fc (x := X1) (w' := W0) (by simp only [execOp, p3, Act.eval, Act.put, d1, d2, hnt]; simp [Array.getD_eq_getD_getElem?, Array.getElem?_setIfInBounds]) (hK3 _ _ ?_)
            refine wpListIn_nil ?_
            refine wpIn_block (wpIn_rangeFunc fun fn' _ => ?_)
            have hact:((({ tmps := (#[X0, X1]:Array Value)++Array.replicate (fn.ntmps - (#[X0, X1]:Array Value).size) undef, defers := [] }:Act).put o1.dst (.pointer (some ⟨w.heap.size, 0, none⟩))).put o2.dst c2).put o3.dst X1={ tmps := tm, defers := [] } := by
              rw [d1, d2, d3, ←htm]; rfl
            rw [hact]
            generalize hWb:W0.alloc (.deferred (some []))=Wb at gb fb
            have hsb:Wb.heap.size=w.heap.size+2 := by rw [←hWb, World.size_alloc, hs0]
            have hDb:Wb.heap[w.heap.size+1]? = some (.deferred (some [])) := by rw [←hWb, ←hs0]; exact World.alloc_heap_new _ _
            have hn1':EG φ n (w.heap.size, 0, (#[X0]:Array Value).size) n1=none := gb.at_n
            have gc := gb.alloc (p := n1) (n' := n2) hn1' (by omega) (by omega) (.lp f n) rfl (.loop (FG ⟨asg, bod, par, 2, 13⟩ fn' tm W0.heap.size)) 0
              (fun φ' hle w' hw' => ⟨rfl, ⟨asg, bod, par, 2, 13⟩, fn', tm, W0.heap.size, hA, hw', htsz, by rw [ht2]; exact Fa hle Dh⟩)
            have fc := Fr.trans fb (Fr.alloc (h := Af n h (some (.c (.l [.nil .sl]) false none))) (w := Wb) (n := n1) (n' := n2) (p := n1) hn1' (by omega) (Nat.le_refl _) (by omega) (some (.lp f n)) (.loop (FG ⟨asg, bod, par, 2, 13⟩ fn' tm W0.heap.size)) 0)
            generalize hWc:Wb.alloc (.loop (FG ⟨asg, bod, par, 2, 13⟩ fn' tm W0.heap.size))=Wc at gc fc
            have hsc:Wc.heap.size=w.heap.size+3 := by rw [←hWc, World.size_alloc, hsb]
            have hDc:Wc.heap[w.heap.size+1]? = some (.deferred (some [])) := by rw [←hWc, Below.heap_alloc _ _ _ (by omega)]; exact hDb
            have hφn:φ n=none := g.at_n
            have hφn1:φ n1=none := by
              cases hx:φ n1 with
              | none => rfl
              | some x => have := g.dom n1 x hx; omega
            generalize hφc:EG (EG φ n (w.heap.size, 0, (#[X0]:Array Value).size)) n1 (Wb.heap.size, 0, 0)=φc at gc fc
            have hcn1:φc n1=some (w.heap.size+2, 0, 0) := by rw [←hφc, Cj, hsb]
            have hnn:n1≠n := fun e => by rw [e] at hn1; omega
            have hcn:φc n=some (w.heap.size, 0, 1) := by rw [←hφc, Hv hnn, Cj]; rfl
            have huD:Vo φc (Af n1 (Af n h (some (.c (.l [.nil .sl]) false none))) (some (.lp f n))) (w.heap.size+1) := fun q s tot hq => by
              rw [←hφc] at hq
              rcases AI hq with ⟨_, e⟩ | ⟨_, hq⟩
              · simp only [Prod.mk.injEq] at e; omega
              · rcases AI hq with ⟨_, e⟩ | ⟨_, hq⟩
                · simp only [Prod.mk.injEq] at e; omega
                · have := (g.blk q _ _ _ hq).2; omega
            obtain ⟨fng, cg, hg1, hg2, hg3⟩ := hits it hmem
            have call := HU hg1 hg2 (by simpa using hg3) (hcf it _ _ n2 _ hr φc Wc (#[.func (.yield (w.heap.size+2)) #[] #[]]++cs) gc (by
              rw [Array.toList_append]
              exact Aw.2 ⟨_, cs.toList, rfl, by simp only [As]; exact ⟨_, _, _, hcn1, rfl⟩, by rw [←hφc]; exact FZ (AT.le_trans (D5 hφn) (D5 hn1')) rcs⟩))
            refine ⟨w.heap.size+2, [{ target := .collected (w.heap.size+1), args := #[] }], Wc, { target := .fn (.func it) cs, args := #[.func (.yield (w.heap.size+2)) #[] #[]] }, Wc, it, #[.func (.yield (w.heap.size+2)) #[] #[]]++cs, Wc, ?_, ?_, ?_, ?_, fun h => (by cases h), ?_⟩
            · have := run_enterLoop_outer (P := P) (w := W0) fn' tm ps asg bod
              rw [hs0] at this
              show (Instr.enterLoop fn' tm ps asg bod none).run P W0=_
              rw [this, hWb, hps, ←hWc, hs0]; rfl
            · have e6:Act.eval { tmps := tm, defers := [] } (.tmp 6) = .func (.func it) #[] cs := by show tm.getD 6 undef=_; rw [ht6, hX1]
              simp only [resolve, rangeCall, e6, Deferred.ofValue]
              simp [Act.eval]
            · intro _ _; trivial
            · simp [invoke, callFunc, hg1, hg2, show fng.name ≠ "runtime.NumGoroutine" by simpa using hg3]
            · refine (callsIn_wide (n := 0)).2 (call.mono fun e w3 he => ?_)
              cases e with
              | panicked c => exact he.elim
              | outgrown => exact he.elim
              | returned u =>
              obtain ⟨v, h3, n3, φ3, hΦ, f3, g3', _⟩:∃ v h1 n1 φ', W2 _ Φ (.rv v h1 n1)∧Fr _ h1 φc φ' n2 n1 Wc w3∧Gam ρ B h1 n1 φ' w3∧As ρ φ' v u := he
              have hΦ:(Bt n1 h3 fun o => WX o (Nm n h3 fun cs _ _ => Ge cs 0 fun sv => BW n h3 none fun h => BW n1 h none fun h => .rv sv h n3)).sat Φ := hΦ
              rw [Bm] at hΦ
              obtain ⟨⟨f', b', hlp⟩, q7⟩ := SX (R.sat_good hΦ)
              rw [q7, EF] at hΦ
              obtain ⟨cs3, sup3, prev3, hbx, q8⟩ := Dd (R.sat_good hΦ)
              rw [q8] at hΦ
              obtain ⟨sv, hsv, q9⟩ := Hz (R.sat_good hΦ)
              rw [q9, BZ, B6, BZ, B6] at hΦ
              have hΦ:Φ (.rv sv (Af n1 (Af n h3 none) none) n3) := hΦ
              have h3n := f3.ext _ _ hcn
              have h3n1 := f3.ext _ _ hcn1
              obtain ⟨_, A3, fn3, tm3, D3, _, hrec, _, _⟩ := g3'.obj n1 _ _ _ _ hlp h3n1
              obtain ⟨c3, e3, fr3, k1, k2, k3, k4, k5⟩ := g3'.obj n _ _ _ _ hbx h3n
              obtain ⟨SV, hSV, rSV, _⟩ := k5 0 sv hsv
              have hD3:w3.heap[w.heap.size+1]? = some (.deferred (some [])) := (f3.old _ (by omega) huD).trans hDc
              have uD3 := huD.step (by omega) f3
              have ul3:Vo φ3 (Af n1 (Af n h3 none) none) (w.heap.size+2) := fun q s tot hq => by
                by_cases e:n1=q
                · subst e; exact A6 _ _ _
                · rw [A7 _ _ e]
                  by_cases e':n=q
                  · subst e'; exact A6 _ _ _
                  · rw [A7 _ _ e']
                    cases hq':A8 q h3 with
                    | none => rfl
                    | some o2 =>
                      rcases g3'.sep n1 q _ o2 _ _ _ s tot e hlp hq' h3n1 hq with e2 | e2
                      · cases e2
                      · have := g3'.sup q n1 o2 _ _ s tot _ _ hq' e2 hlp hq h3n1; cases this
              refine ⟨none, w3.putObj (w.heap.size+2) (.loop { FG A3 fn3 tm3 D3 with state := .exhausted }), run_endLoop hrec (by simp), ?_⟩
              refine wpIn_seq (wpIn_region_list ?_)
              rw [e4]
              generalize hw4:w3.putObj (w.heap.size+2) (.loop { FG A3 fn3 tm3 D3 with state := .exhausted })=w4
              have hb4:w4.heap[w.heap.size]? = some (.cells c3 e3 fr3) := by rw [←hw4, World.putObj_heap_other (by omega)]; exact k1
              have hD4:w4.heap[w.heap.size+1]? = some (.deferred (some [])) := by rw [←hw4, World.putObj_heap_other (by omega)]; exact hD3
              have hld:(execOp (Act.eval { tmps := tm, defers := [{ target := .collected (w.heap.size+1), args := #[] }]++[] }) o4).run P w4 = .ok (.value SV) w4 := by
                have e2:Act.eval { tmps := tm, defers := [{ target := .collected (w.heap.size+1), args := #[] }]++[] } (.tmp 2) = .pointer (some ⟨w.heap.size, 0, none⟩) := ht2
                simp only [execOp, p4, e2]
                simp [Instr.loadAt, Instr.sureAddr, loadVar, Cq hagg, Gs hb4 hSV]
              refine wpListIn_plain g4 fun K4 hK4 => Fc hld (hK4 _ _ ?_)
              refine wpListIn_plain g5 fun K5 hK5 => Fc (x := SV) (w' := w4) (by
                simp only [execOp, p5, Act.eval, Act.put, d4]; simp [Array.getD_eq_getD_getElem?, htsz]) (hK5 _ _ ?_)
              refine wpListIn_nil (wpIn_ret ?_)
              have take := run_takeDeferred (P := P) hD4
              rw [d4, d5]
              show LeavesInM Fence.wide 0 P fn _ _ [{ target := .collected (w.heap.size+1), args := #[] }] .returning w4
              unfold LeavesInM
              refine ⟨(by intro h; cases h), .inl ⟨w.heap.size+1, _, rfl, take, ?_⟩⟩
              unfold LeavesInM LeavesIn
              refine ⟨SV, ?_, ?_⟩
              · simp [results, hres, Act.put, htsz, Array.getD_eq_getD_getElem?]
              · have hna:∀ q, φ q≠none->A8 q (Af n1 (Af n h3 none) none)=A8 q h3 := fun q hq => by
                  rw [A7 _ _ (fun e:n1=q => hq (by rw [←e]; exact hφn1)), A7 _ _ (fun e:n=q => hq (by rw [←e]; exact hφn))]
                have fz := ((Fr.trans fc f3).show hna).poke (l := w.heap.size+2) (.loop { FG A3 fn3 tm3 D3 with state := .exhausted }) (by omega)
                have gz := (g3'.aside (p := n)).aside (p := n1)
                have gz := gz.poke ul3 (.loop { FG A3 fn3 tm3 D3 with state := .exhausted }) (fun c e fr h => by rw [hrec] at h; cases h)
                rw [hw4] at fz gz
                have uDz:Vo φ3 (Af n1 (Af n h3 none) none) (w.heap.size+1) := fun q s tot hq => by
                  by_cases e:n1=q
                  · subst e; exact A6 _ _ _
                  · rw [A7 _ _ e]
                    by_cases e':n=q
                    · subst e'; exact A6 _ _ _
                    · rw [A7 _ _ e']; exact uD3 q s tot hq
                exact hK SV _ ⟨sv, _, n3, φ3, hΦ, fz.poke _ (by omega), gz.poke uDz _ (fun c e fr h => by rw [hD4] at h; cases h), rSV⟩
          next => cases hsh
        next => cases hsh
      next => cases hsh
    next => cases hsh
  next => cases hsh
end
end Go.Ev
