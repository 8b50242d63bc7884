/- AN EVALUATOR OF THE MODEL OF Go, PROVED SOUND, PART 4: what it says of a call holds in every world, on every tape. Conditions: none of its own; each theorem bears its premises. -/
import Derived.Test.YtdgefeadbcbglaaOEv3
import Derived.Maps.RangeRun
import Derived.RangeFuncIn
import Derived.RangeFuncRecord
import Derived.TacticsIn
noncomputable section
set_option linter.unusedSimpArgs false
set_option linter.unusedVariables false
namespace Go.Ev
set_option linter.unusedVariables false
/-- Two kinds that are one: its modulus. -/
def kM0 (j:IntKind) (κ:Nat->R):R := @IntKind.rec (fun _ => R) (κ 256) (.fail "") (.fail "") (.fail "") (.fail "") (.fail "") (.fail "") (.fail "") j
def kM1 (j:IntKind) (κ:Nat->R):R := @IntKind.rec (fun _ => R) (.fail "") (κ 65536) (.fail "") (.fail "") (.fail "") (.fail "") (.fail "") (.fail "") j
def kM2 (j:IntKind) (κ:Nat->R):R := @IntKind.rec (fun _ => R) (.fail "") (.fail "") (κ 4294967296) (.fail "") (.fail "") (.fail "") (.fail "") (.fail "") j
def kM3 (j:IntKind) (κ:Nat->R):R := @IntKind.rec (fun _ => R) (.fail "") (.fail "") (.fail "") (κ 18446744073709551616) (.fail "") (.fail "") (.fail "") (.fail "") j
def kM4 (j:IntKind) (κ:Nat->R):R := @IntKind.rec (fun _ => R) (.fail "") (.fail "") (.fail "") (.fail "") (κ 256) (.fail "") (.fail "") (.fail "") j
def kM5 (j:IntKind) (κ:Nat->R):R := @IntKind.rec (fun _ => R) (.fail "") (.fail "") (.fail "") (.fail "") (.fail "") (κ 65536) (.fail "") (.fail "") j
def kM6 (j:IntKind) (κ:Nat->R):R := @IntKind.rec (fun _ => R) (.fail "") (.fail "") (.fail "") (.fail "") (.fail "") (.fail "") (κ 4294967296) (.fail "") j
def kM7 (j:IntKind) (κ:Nat->R):R := @IntKind.rec (fun _ => R) (.fail "") (.fail "") (.fail "") (.fail "") (.fail "") (.fail "") (.fail "") (κ 18446744073709551616) j
def kM (k:IntKind):IntKind->(Nat->R)->R := @IntKind.rec (fun _ => IntKind->(Nat->R)->R) kM0 kM1 kM2 kM3 kM4 kM5 kM6 kM7 k
theorem OI (k j:IntKind) (κ:Nat->R):kM k j κ=br (B9 k j) (κ (Mk k)) (.fail "") := by cases k <;> cases j <;> rfl
/-- Two kinds that are one: where its negative numbers begin. -/
def kH0 (j:IntKind) (κ:Nat->R):R := @IntKind.rec (fun _ => R) (κ 128) (.fail "") (.fail "") (.fail "") (.fail "") (.fail "") (.fail "") (.fail "") j
def kH1 (j:IntKind) (κ:Nat->R):R := @IntKind.rec (fun _ => R) (.fail "") (κ 32768) (.fail "") (.fail "") (.fail "") (.fail "") (.fail "") (.fail "") j
def kH2 (j:IntKind) (κ:Nat->R):R := @IntKind.rec (fun _ => R) (.fail "") (.fail "") (κ 2147483648) (.fail "") (.fail "") (.fail "") (.fail "") (.fail "") j
def kH3 (j:IntKind) (κ:Nat->R):R := @IntKind.rec (fun _ => R) (.fail "") (.fail "") (.fail "") (κ 9223372036854775808) (.fail "") (.fail "") (.fail "") (.fail "") j
def kH4 (j:IntKind) (κ:Nat->R):R := @IntKind.rec (fun _ => R) (.fail "") (.fail "") (.fail "") (.fail "") (κ 256) (.fail "") (.fail "") (.fail "") j
def kH5 (j:IntKind) (κ:Nat->R):R := @IntKind.rec (fun _ => R) (.fail "") (.fail "") (.fail "") (.fail "") (.fail "") (κ 65536) (.fail "") (.fail "") j
def kH6 (j:IntKind) (κ:Nat->R):R := @IntKind.rec (fun _ => R) (.fail "") (.fail "") (.fail "") (.fail "") (.fail "") (.fail "") (κ 4294967296) (.fail "") j
def kH7 (j:IntKind) (κ:Nat->R):R := @IntKind.rec (fun _ => R) (.fail "") (.fail "") (.fail "") (.fail "") (.fail "") (.fail "") (.fail "") (κ 18446744073709551616) j
def kH (k:IntKind):IntKind->(Nat->R)->R := @IntKind.rec (fun _ => IntKind->(Nat->R)->R) kH0 kH1 kH2 kH3 kH4 kH5 kH6 kH7 k
theorem Sk (k j:IntKind) (κ:Nat->R):kH k j κ=br (B9 k j) (κ (Hk k)) (.fail "") := by cases k <;> cases j <;> rfl
def Xq (H a b:Nat):Bool := br (Nat.ble H a) (br (Nat.ble H b) (Nat.ble (Nat.succ a) b) true) (br (Nat.ble H b) false (Nat.ble (Nat.succ a) b))
theorem Us (k:IntKind) (a b:Nat):Xq (Hk k) a b=Dy k a b := rfl
def AZ (v:V) (a b:R):R := @V.rec (fun _ => R) (fun _ => Unit) (AB "") (fun q => @Bool.rec (fun _ => R) b a q) (AB "") (DZ "") (AB "") (AB "") (AT "") (AT "") (C8 "") (AB "") (fun o => @Ot.rec (fun _ => R) (.fail "") (fun _ => (.fail "")) (fun _ => (.fail "")) (.fail "") (fun _ _ _ => (.fail "")) (fun _ _ => (.fail "")) (.both a b) (fun _ _ => (.fail "")) (fun _ _ _ _ => (.fail "")) (fun _ _ _ _ => (.fail "")) (fun _ _ _ => (.fail "")) (fun _ _ => (.fail "")) (fun _ _ => (.fail "")) (fun _ _ _ => (.fail "")) (fun _ => (.fail "")) o) () (fun _ _ _ _ => ()) v
def AW (q a b:V) (κ:V->R):R := @V.rec (fun _ => R) (fun _ => Unit) (AB "") (fun q => @Bool.rec (fun _ => R) (κ b) (κ a) q) (AB "") (DZ "") (AB "") (AB "") (AT "") (AT "") (C8 "") (AB "") (AT "") () (fun _ _ _ _ => ()) q
theorem UW (q a b:V) (κ:V->R):AW q a b κ=Qb q fun q => br q (κ a) (κ b) := by cases q <;> rfl
def AF (u v:V) (κ:V->R):R :=
  @V.rec (fun _ => R) (fun _ => Unit) (fun k a => @V.rec (fun _ => R) (fun _ => Unit) (fun j b => kM k j fun M => Aa (Nat.mod (Nat.add a b) M) fun r => κ (.int k r)) (AT "") (AB "") (DZ "") (AB "") (AB "") (AT "") (AT "") (C8 "") (AB "") (fun _ => Ko .add u v κ) () (fun _ _ _ _ => ()) v) (AT "") (AB "") (DZ "") (fun n c => BC v fun m d => YA n c m d κ) (AB "") (AT "") (AT "") (C8 "") (AB "") (fun _ => CE .add u v κ) () (fun _ _ _ _ => ()) u
def BF (u v:V) (κ:V->R):R :=
  @V.rec (fun _ => R) (fun _ => Unit) (fun k a => @V.rec (fun _ => R) (fun _ => Unit) (fun j b => kM k j fun M => Aa (Nat.mod (Nat.add a (Nat.sub M b)) M) fun r => κ (.int k r)) (AT "") (AB "") (DZ "") (AB "") (AB "") (AT "") (AT "") (C8 "") (AB "") (fun _ => Ko .sub u v κ) () (fun _ _ _ _ => ()) v) (AT "") (AB "") (DZ "") (fun n c => BC v fun m d => .fail "") (AB "") (AT "") (AT "") (C8 "") (AB "") (fun _ => CE .sub u v κ) () (fun _ _ _ _ => ()) u
def N2 (u v:V) (κ:V->R):R :=
  @V.rec (fun _ => R) (fun _ => Unit) (fun k a => @V.rec (fun _ => R) (fun _ => Unit) (fun j b => kM k j fun M => Aa (Nat.mod (Nat.mul a b) M) fun r => κ (.int k r)) (AT "") (AB "") (DZ "") (AB "") (AB "") (AT "") (AT "") (C8 "") (AB "") (fun _ => Ko .mul u v κ) () (fun _ _ _ _ => ()) v) (AT "") (AB "") (DZ "") (fun n c => BC v fun m d => .fail "") (AB "") (AT "") (AT "") (C8 "") (AB "") (fun _ => CE .mul u v κ) () (fun _ _ _ _ => ()) u
def KH (u v:V) (κ:V->R):R :=
  @V.rec (fun _ => R) (fun _ => Unit) (fun k a => @V.rec (fun _ => R) (fun _ => Unit) (fun j b => Tv k a j b κ) (AT "") (AB "") (DZ "") (AB "") (AB "") (AT "") (AT "") (C8 "") (AB "") (fun _ => Ko .quo u v κ) () (fun _ _ _ _ => ()) v) (AT "") (AB "") (DZ "") (fun n c => BC v fun m d => .fail "") (AB "") (AT "") (AT "") (C8 "") (AB "") (fun _ => CE .quo u v κ) () (fun _ _ _ _ => ()) u
def HR (u v:V) (κ:V->R):R :=
  @V.rec (fun _ => R) (fun _ => Unit) (fun k a => @V.rec (fun _ => R) (fun _ => Unit) (fun j b => LQ k a j b κ) (AT "") (AB "") (DZ "") (AB "") (AB "") (AT "") (AT "") (C8 "") (AB "") (fun _ => Ko .rem u v κ) () (fun _ _ _ _ => ()) v) (AT "") (AB "") (DZ "") (fun n c => BC v fun m d => .fail "") (AB "") (AT "") (AT "") (C8 "") (AB "") (fun _ => CE .rem u v κ) () (fun _ _ _ _ => ()) u
def Mu (u v:V) (κ:V->R):R :=
  @V.rec (fun _ => R) (fun _ => Unit) (fun k a => @V.rec (fun _ => R) (fun _ => Unit) (fun j b => VW k a j b κ) (AT "") (AB "") (DZ "") (AB "") (AB "") (AT "") (AT "") (C8 "") (AB "") (fun _ => Ko .and u v κ) () (fun _ _ _ _ => ()) v) (AT "") (AB "") (DZ "") (fun n c => BC v fun m d => .fail "") (AB "") (AT "") (AT "") (C8 "") (AB "") (fun _ => CE .and u v κ) () (fun _ _ _ _ => ()) u
def VY (u v:V) (κ:V->R):R :=
  @V.rec (fun _ => R) (fun _ => Unit) (fun k a => @V.rec (fun _ => R) (fun _ => Unit) (fun j b => ior k a j b κ) (AT "") (AB "") (DZ "") (AB "") (AB "") (AT "") (AT "") (C8 "") (AB "") (fun _ => Ko .or u v κ) () (fun _ _ _ _ => ()) v) (AT "") (AB "") (DZ "") (fun n c => BC v fun m d => .fail "") (AB "") (AT "") (AT "") (C8 "") (AB "") (fun _ => CE .or u v κ) () (fun _ _ _ _ => ()) u
def HL (u v:V) (κ:V->R):R :=
  @V.rec (fun _ => R) (fun _ => Unit) (fun k a => @V.rec (fun _ => R) (fun _ => Unit) (fun j b => US k a j b κ) (AT "") (AB "") (DZ "") (AB "") (AB "") (AT "") (AT "") (C8 "") (AB "") (fun _ => Ko .xor u v κ) () (fun _ _ _ _ => ()) v) (AT "") (AB "") (DZ "") (fun n c => BC v fun m d => .fail "") (AB "") (AT "") (AT "") (C8 "") (AB "") (fun _ => CE .xor u v κ) () (fun _ _ _ _ => ()) u
def Ps (u v:V) (κ:V->R):R :=
  @V.rec (fun _ => R) (fun _ => Unit) (fun k a => @V.rec (fun _ => R) (fun _ => Unit) (fun j b => Vh k a j b κ) (AT "") (AB "") (DZ "") (AB "") (AB "") (AT "") (AT "") (C8 "") (AB "") (fun _ => Ko .shl u v κ) () (fun _ _ _ _ => ()) v) (AT "") (AB "") (DZ "") (fun n c => BC v fun m d => .fail "") (AB "") (AT "") (AT "") (C8 "") (AB "") (fun _ => CE .shl u v κ) () (fun _ _ _ _ => ()) u
def G8 (u v:V) (κ:V->R):R :=
  @V.rec (fun _ => R) (fun _ => Unit) (fun k a => @V.rec (fun _ => R) (fun _ => Unit) (fun j b => TA k a j b κ) (AT "") (AB "") (DZ "") (AB "") (AB "") (AT "") (AT "") (C8 "") (AB "") (fun _ => Ko .shr u v κ) () (fun _ _ _ _ => ()) v) (AT "") (AB "") (DZ "") (fun n c => BC v fun m d => .fail "") (AB "") (AT "") (AT "") (C8 "") (AB "") (fun _ => CE .shr u v κ) () (fun _ _ _ _ => ()) u
def VI (u v:V) (κ:V->R):R :=
  @V.rec (fun _ => R) (fun _ => Unit) (fun k a => @V.rec (fun _ => R) (fun _ => Unit) (fun j b => PQ k a j b κ) (AT "") (AB "") (DZ "") (AB "") (AB "") (AT "") (AT "") (C8 "") (AB "") (fun _ => Ko .andNot u v κ) () (fun _ _ _ _ => ()) v) (AT "") (AB "") (DZ "") (fun n c => BC v fun m d => .fail "") (AB "") (AT "") (AT "") (C8 "") (AB "") (fun _ => CE .andNot u v κ) () (fun _ _ _ _ => ()) u
def CO (u v:V) (κ:V->R):R :=
  @V.rec (fun _ => R) (fun _ => Unit) (fun k a => @V.rec (fun _ => R) (fun _ => Unit) (fun j b => kM k j fun _ => C2 (Nat.beq a b) fun r => κ (.bool r)) (AT "") (AB "") (DZ "") (AB "") (AB "") (AT "") (AT "") (C8 "") (AB "") (fun _ => Ko .eql u v κ) () (fun _ _ _ _ => ()) v) (AT "") (AB "") (DZ "") (fun n c => BC v fun m d => Zh n c m d κ) (AB "") (AT "") (AT "") (C8 "") (AB "") (fun _ => CE .eql u v κ) () (fun _ _ _ _ => ()) u
def BY (u v:V) (κ:V->R):R :=
  @V.rec (fun _ => R) (fun _ => Unit) (fun k a => @V.rec (fun _ => R) (fun _ => Unit) (fun j b => kM k j fun _ => br (Nat.beq a b) (κ (.bool false)) (κ (.bool true))) (AT "") (AB "") (DZ "") (AB "") (AB "") (AT "") (AT "") (C8 "") (AB "") (fun _ => Ko .neq u v κ) () (fun _ _ _ _ => ()) v) (AT "") (AB "") (DZ "") (fun n c => BC v fun m d => sne n c m d κ) (AB "") (AT "") (AT "") (C8 "") (AB "") (fun _ => CE .neq u v κ) () (fun _ _ _ _ => ()) u
def AP (u v:V) (κ:V->R):R :=
  @V.rec (fun _ => R) (fun _ => Unit) (fun k a => @V.rec (fun _ => R) (fun _ => Unit) (fun j b => kH k j fun H => C2 (Xq H a b) fun r => κ (.bool r)) (AT "") (AB "") (DZ "") (AB "") (AB "") (AT "") (AT "") (C8 "") (AB "") (fun _ => Ko .lss u v κ) () (fun _ _ _ _ => ()) v) (AT "") (AB "") (DZ "") (fun n c => BC v fun m d => slt n c m d κ) (AB "") (AT "") (AT "") (C8 "") (AB "") (fun _ => CE .lss u v κ) () (fun _ _ _ _ => ()) u
def HM (u v:V) (κ:V->R):R :=
  @V.rec (fun _ => R) (fun _ => Unit) (fun k a => @V.rec (fun _ => R) (fun _ => Unit) (fun j b => kH k j fun H => br (Xq H b a) (κ (.bool false)) (κ (.bool true))) (AT "") (AB "") (DZ "") (AB "") (AB "") (AT "") (AT "") (C8 "") (AB "") (fun _ => Ko .leq u v κ) () (fun _ _ _ _ => ()) v) (AT "") (AB "") (DZ "") (fun n c => BC v fun m d => .fail "") (AB "") (AT "") (AT "") (C8 "") (AB "") (fun _ => CE .leq u v κ) () (fun _ _ _ _ => ()) u
def Cf (u v:V) (κ:V->R):R :=
  @V.rec (fun _ => R) (fun _ => Unit) (fun k a => @V.rec (fun _ => R) (fun _ => Unit) (fun j b => kH k j fun H => C2 (Xq H b a) fun r => κ (.bool r)) (AT "") (AB "") (DZ "") (AB "") (AB "") (AT "") (AT "") (C8 "") (AB "") (fun _ => Ko .gtr u v κ) () (fun _ _ _ _ => ()) v) (AT "") (AB "") (DZ "") (fun n c => BC v fun m d => .fail "") (AB "") (AT "") (AT "") (C8 "") (AB "") (fun _ => CE .gtr u v κ) () (fun _ _ _ _ => ()) u
def D9 (u v:V) (κ:V->R):R :=
  @V.rec (fun _ => R) (fun _ => Unit) (fun k a => @V.rec (fun _ => R) (fun _ => Unit) (fun j b => kH k j fun H => br (Xq H a b) (κ (.bool false)) (κ (.bool true))) (AT "") (AB "") (DZ "") (AB "") (AB "") (AT "") (AT "") (C8 "") (AB "") (fun _ => Ko .geq u v κ) () (fun _ _ _ _ => ()) v) (AT "") (AB "") (DZ "") (fun n c => BC v fun m d => sge n c m d κ) (AB "") (AT "") (AT "") (C8 "") (AB "") (fun _ => CE .geq u v κ) () (fun _ _ _ _ => ()) u
abbrev Zn (op:BinOp):V->V->(V->R)->R := @BinOp.rec (fun _ => V->V->(V->R)->R) AF BF N2 KH HR Mu VY HL Ps G8 VI CO BY AP HM Cf D9 op
theorem Xh (op:BinOp) (u v:V) (κ:V->R):Zn op u v κ=On op u v κ := by
  cases u with
  | int k a =>
    cases v with
    | int j b =>
      cases op
      case add => cases k <;> cases j <;> rfl
      case sub => cases k <;> cases j <;> rfl
      case mul => cases k <;> cases j <;> rfl
      case eql => cases k <;> cases j <;> rfl
      case neq => cases k <;> cases j <;> rfl
      case lss => cases k <;> cases j <;> rfl
      case leq => cases k <;> cases j <;> rfl
      case gtr => cases k <;> cases j <;> rfl
      case geq => cases k <;> cases j <;> rfl
      all_goals rfl
    | _ => cases op <;> rfl
  | str n c => cases op <;> rfl
  | _ => cases op <;> rfl
/-- A value of one cell put at a place of a list. -/
def BZ (m:Nat):List V->V->(List V->R)->R :=
  @Nat.rec (fun _ => List V->V->(List V->R)->R) (fun xs v k => @List.rec V (fun _ => R) (.fail "") (fun _ ys _ => k (v::ys)) xs)
    (fun _ ih xs v k => @List.rec V (fun _ => R) (.fail "") (fun x ys _ => ih ys v fun zs => k (x::zs)) xs) m
def Rp (off size:Nat) (z:List V) (κ:List V->R) (l:List V):R := FU l fun m => br (Nat.beq m size) (LN z off l κ) (.fail "")
def F9 (off size:Nat) (v:V) (z:List V) (κ:List V->R):R := Ee v (Rp off size z κ)
/-- A part of one cell. -/
def Aw (off:Nat) (v:V) (z:List V) (κ:List V->R):R :=
  @V.rec (fun _ => R) (fun _ => Unit) (fun _ _ => BZ off z v κ) (fun _ => BZ off z v κ) (fun _ _ => BZ off z v κ) (fun _ _ _ _ _ _ => BZ off z v κ) (fun _ _ => BZ off z v κ) (fun l _ => Rp off 1 z κ l) (fun _ => BZ off z v κ) (fun _ => BZ off z v κ) (fun _ _ _ => BZ off z v κ) (AB "") (fun o => @Ot.rec (fun _ => R) (.fail "") (fun _ => BZ off z v κ) (AT "") (.fail "") (fun _ _ _ => BZ off z v κ) (fun _ _ => BZ off z v κ) (BZ off z v κ) (fun _ _ => BZ off z v κ) (fun _ _ _ _ => BZ off z v κ) (fun _ _ _ _ => BZ off z v κ) (fun _ _ _ => BZ off z v κ) (fun _ _ => BZ off z v κ) (fun _ _ => BZ off z v κ) (fun _ _ _ => BZ off z v κ) (fun _ => BZ off z v κ) o) () (fun _ _ _ _ => ()) v
theorem Lm (off:Nat):∀ (z:List V) (v:V) (κ:List V->R), BZ off z v κ=LN z off [v] κ := by
  induction off with
  | zero => intro z v κ; cases z <;> rfl
  | succ off ih =>
    intro z v κ
    cases z with
    | nil => rfl
    | cons x z =>
      have e1:BZ (off+1) (x::z) v κ=BZ off z v fun zs => κ (x::zs) := rfl
      rw [e1, ih]
      have e2:LN (x::z) (off+1) [v] κ=D6 (off+1) (x::z) fun a => DA (off+2) (x::z) fun b => Ep [v] b fun t => Ep a t κ := rfl
      have e3:LN z off [v] (fun zs => κ (x::zs))=D6 off z fun a => DA (off+1) z fun b => Ep [v] b fun t => Ep a t fun zs => κ (x::zs) := rfl
      rw [e2, e3]
      have e4:∀ F:List V->R, D6 (off+1) (x::z) F=D6 off z fun a => F (x::a) := fun F => rfl
      rw [e4]; rfl
theorem QY (off:Nat) (v:V) (z:List V) (κ:List V->R):Aw off v z κ=F9 off 1 v z κ := by
  cases v with
  | agg l => rfl
  | tup l => rfl
  | oth o => cases o with
    | any => rfl
    | yl p => rfl
    | no => rfl
    | _ => exact Lm off z _ κ
  | _ => exact Lm off z _ κ
abbrev Ih (off size:Nat) (v:V) (z:List V) (κ:List V->R):R := @Bool.rec (fun _ => R) (F9 off size v z κ) (Aw off v z κ) (Nat.beq size 1)
theorem Qy (off size:Nat) (v:V) (z:List V) (κ:List V->R):Ih off size v z κ=F9 off size v z κ := by
  unfold Ih
  cases hb:Nat.beq size 1 with
  | true => rw [Nat.eq_of_beq_eq_true hb]; exact QY off v z κ
  | false => rfl
def HA.selR (d:D):HA->(Ck->R)->R :=
  @D.rec (fun _ => HA->(Ck->R)->R) (fun p k => @HA.rec (fun _ => R) (fun A B C E F G I J L M N O P Q T U => k A) p) (fun p k => @HA.rec (fun _ => R) (fun A B C E F G I J L M N O P Q T U => k B) p) (fun p k => @HA.rec (fun _ => R) (fun A B C E F G I J L M N O P Q T U => k C) p) (fun p k => @HA.rec (fun _ => R) (fun A B C E F G I J L M N O P Q T U => k E) p) (fun p k => @HA.rec (fun _ => R) (fun A B C E F G I J L M N O P Q T U => k F) p) (fun p k => @HA.rec (fun _ => R) (fun A B C E F G I J L M N O P Q T U => k G) p) (fun p k => @HA.rec (fun _ => R) (fun A B C E F G I J L M N O P Q T U => k I) p) (fun p k => @HA.rec (fun _ => R) (fun A B C E F G I J L M N O P Q T U => k J) p) (fun p k => @HA.rec (fun _ => R) (fun A B C E F G I J L M N O P Q T U => k L) p) (fun p k => @HA.rec (fun _ => R) (fun A B C E F G I J L M N O P Q T U => k M) p) (fun p k => @HA.rec (fun _ => R) (fun A B C E F G I J L M N O P Q T U => k N) p) (fun p k => @HA.rec (fun _ => R) (fun A B C E F G I J L M N O P Q T U => k O) p) (fun p k => @HA.rec (fun _ => R) (fun A B C E F G I J L M N O P Q T U => k P) p) (fun p k => @HA.rec (fun _ => R) (fun A B C E F G I J L M N O P Q T U => k Q) p) (fun p k => @HA.rec (fun _ => R) (fun A B C E F G I J L M N O P Q T U => k T) p) (fun p k => @HA.rec (fun _ => R) (fun A B C E F G I J L M N O P Q T U => k U) p) d
theorem HA.selR_eq (d:D) (p:HA) (k:Ck->R):HA.selR d p k=k (HA.sel d p) := by
  cases d <;> cases p <;> rfl
def HA.opR (d:D):HA->(Ck->(Ck->(HA->R)->R)->R)->R :=
  @D.rec (fun _ => HA->(Ck->(Ck->(HA->R)->R)->R)->R) (fun p k => @HA.rec (fun _ => R) (fun A B C E F G I J L M N O P Q T U => k A fun v q => q (.mk v B C E F G I J L M N O P Q T U)) p) (fun p k => @HA.rec (fun _ => R) (fun A B C E F G I J L M N O P Q T U => k B fun v q => q (.mk A v C E F G I J L M N O P Q T U)) p) (fun p k => @HA.rec (fun _ => R) (fun A B C E F G I J L M N O P Q T U => k C fun v q => q (.mk A B v E F G I J L M N O P Q T U)) p) (fun p k => @HA.rec (fun _ => R) (fun A B C E F G I J L M N O P Q T U => k E fun v q => q (.mk A B C v F G I J L M N O P Q T U)) p) (fun p k => @HA.rec (fun _ => R) (fun A B C E F G I J L M N O P Q T U => k F fun v q => q (.mk A B C E v G I J L M N O P Q T U)) p) (fun p k => @HA.rec (fun _ => R) (fun A B C E F G I J L M N O P Q T U => k G fun v q => q (.mk A B C E F v I J L M N O P Q T U)) p) (fun p k => @HA.rec (fun _ => R) (fun A B C E F G I J L M N O P Q T U => k I fun v q => q (.mk A B C E F G v J L M N O P Q T U)) p) (fun p k => @HA.rec (fun _ => R) (fun A B C E F G I J L M N O P Q T U => k J fun v q => q (.mk A B C E F G I v L M N O P Q T U)) p) (fun p k => @HA.rec (fun _ => R) (fun A B C E F G I J L M N O P Q T U => k L fun v q => q (.mk A B C E F G I J v M N O P Q T U)) p) (fun p k => @HA.rec (fun _ => R) (fun A B C E F G I J L M N O P Q T U => k M fun v q => q (.mk A B C E F G I J L v N O P Q T U)) p) (fun p k => @HA.rec (fun _ => R) (fun A B C E F G I J L M N O P Q T U => k N fun v q => q (.mk A B C E F G I J L M v O P Q T U)) p) (fun p k => @HA.rec (fun _ => R) (fun A B C E F G I J L M N O P Q T U => k O fun v q => q (.mk A B C E F G I J L M N v P Q T U)) p) (fun p k => @HA.rec (fun _ => R) (fun A B C E F G I J L M N O P Q T U => k P fun v q => q (.mk A B C E F G I J L M N O v Q T U)) p) (fun p k => @HA.rec (fun _ => R) (fun A B C E F G I J L M N O P Q T U => k Q fun v q => q (.mk A B C E F G I J L M N O P v T U)) p) (fun p k => @HA.rec (fun _ => R) (fun A B C E F G I J L M N O P Q T U => k T fun v q => q (.mk A B C E F G I J L M N O P Q v U)) p) (fun p k => @HA.rec (fun _ => R) (fun A B C E F G I J L M N O P Q T U => k U fun v q => q (.mk A B C E F G I J L M N O P Q T v)) p) d
theorem HA.opR_eq (d:D) (p:HA) (k:Ck->(Ck->(HA->R)->R)->R):HA.opR d p k=k (HA.sel d p) fun v q => q (HA.setS d p v) := by
  cases d <;> cases p <;> rfl
def HB.selR (d:D):HB->(HA->R)->R :=
  @D.rec (fun _ => HB->(HA->R)->R) (fun p k => @HB.rec (fun _ => R) (fun A B C E F G I J L M N O P Q T U => k A) p) (fun p k => @HB.rec (fun _ => R) (fun A B C E F G I J L M N O P Q T U => k B) p) (fun p k => @HB.rec (fun _ => R) (fun A B C E F G I J L M N O P Q T U => k C) p) (fun p k => @HB.rec (fun _ => R) (fun A B C E F G I J L M N O P Q T U => k E) p) (fun p k => @HB.rec (fun _ => R) (fun A B C E F G I J L M N O P Q T U => k F) p) (fun p k => @HB.rec (fun _ => R) (fun A B C E F G I J L M N O P Q T U => k G) p) (fun p k => @HB.rec (fun _ => R) (fun A B C E F G I J L M N O P Q T U => k I) p) (fun p k => @HB.rec (fun _ => R) (fun A B C E F G I J L M N O P Q T U => k J) p) (fun p k => @HB.rec (fun _ => R) (fun A B C E F G I J L M N O P Q T U => k L) p) (fun p k => @HB.rec (fun _ => R) (fun A B C E F G I J L M N O P Q T U => k M) p) (fun p k => @HB.rec (fun _ => R) (fun A B C E F G I J L M N O P Q T U => k N) p) (fun p k => @HB.rec (fun _ => R) (fun A B C E F G I J L M N O P Q T U => k O) p) (fun p k => @HB.rec (fun _ => R) (fun A B C E F G I J L M N O P Q T U => k P) p) (fun p k => @HB.rec (fun _ => R) (fun A B C E F G I J L M N O P Q T U => k Q) p) (fun p k => @HB.rec (fun _ => R) (fun A B C E F G I J L M N O P Q T U => k T) p) (fun p k => @HB.rec (fun _ => R) (fun A B C E F G I J L M N O P Q T U => k U) p) d
theorem HB.selR_eq (d:D) (p:HB) (k:HA->R):HB.selR d p k=k (HB.sel d p) := by
  cases d <;> cases p <;> rfl
def HB.opR (d:D):HB->(HA->(HA->(HB->R)->R)->R)->R :=
  @D.rec (fun _ => HB->(HA->(HA->(HB->R)->R)->R)->R) (fun p k => @HB.rec (fun _ => R) (fun A B C E F G I J L M N O P Q T U => k A fun v q => q (.mk v B C E F G I J L M N O P Q T U)) p) (fun p k => @HB.rec (fun _ => R) (fun A B C E F G I J L M N O P Q T U => k B fun v q => q (.mk A v C E F G I J L M N O P Q T U)) p) (fun p k => @HB.rec (fun _ => R) (fun A B C E F G I J L M N O P Q T U => k C fun v q => q (.mk A B v E F G I J L M N O P Q T U)) p) (fun p k => @HB.rec (fun _ => R) (fun A B C E F G I J L M N O P Q T U => k E fun v q => q (.mk A B C v F G I J L M N O P Q T U)) p) (fun p k => @HB.rec (fun _ => R) (fun A B C E F G I J L M N O P Q T U => k F fun v q => q (.mk A B C E v G I J L M N O P Q T U)) p) (fun p k => @HB.rec (fun _ => R) (fun A B C E F G I J L M N O P Q T U => k G fun v q => q (.mk A B C E F v I J L M N O P Q T U)) p) (fun p k => @HB.rec (fun _ => R) (fun A B C E F G I J L M N O P Q T U => k I fun v q => q (.mk A B C E F G v J L M N O P Q T U)) p) (fun p k => @HB.rec (fun _ => R) (fun A B C E F G I J L M N O P Q T U => k J fun v q => q (.mk A B C E F G I v L M N O P Q T U)) p) (fun p k => @HB.rec (fun _ => R) (fun A B C E F G I J L M N O P Q T U => k L fun v q => q (.mk A B C E F G I J v M N O P Q T U)) p) (fun p k => @HB.rec (fun _ => R) (fun A B C E F G I J L M N O P Q T U => k M fun v q => q (.mk A B C E F G I J L v N O P Q T U)) p) (fun p k => @HB.rec (fun _ => R) (fun A B C E F G I J L M N O P Q T U => k N fun v q => q (.mk A B C E F G I J L M v O P Q T U)) p) (fun p k => @HB.rec (fun _ => R) (fun A B C E F G I J L M N O P Q T U => k O fun v q => q (.mk A B C E F G I J L M N v P Q T U)) p) (fun p k => @HB.rec (fun _ => R) (fun A B C E F G I J L M N O P Q T U => k P fun v q => q (.mk A B C E F G I J L M N O v Q T U)) p) (fun p k => @HB.rec (fun _ => R) (fun A B C E F G I J L M N O P Q T U => k Q fun v q => q (.mk A B C E F G I J L M N O P v T U)) p) (fun p k => @HB.rec (fun _ => R) (fun A B C E F G I J L M N O P Q T U => k T fun v q => q (.mk A B C E F G I J L M N O P Q v U)) p) (fun p k => @HB.rec (fun _ => R) (fun A B C E F G I J L M N O P Q T U => k U fun v q => q (.mk A B C E F G I J L M N O P Q T v)) p) d
theorem HB.opR_eq (d:D) (p:HB) (k:HA->(HA->(HB->R)->R)->R):HB.opR d p k=k (HB.sel d p) fun v q => q (HB.setS d p v) := by
  cases d <;> cases p <;> rfl
def HC.selR (d:D):HC->(HB->R)->R :=
  @D.rec (fun _ => HC->(HB->R)->R) (fun p k => @HC.rec (fun _ => R) (fun A B C E F G I J L M N O P Q T U => k A) p) (fun p k => @HC.rec (fun _ => R) (fun A B C E F G I J L M N O P Q T U => k B) p) (fun p k => @HC.rec (fun _ => R) (fun A B C E F G I J L M N O P Q T U => k C) p) (fun p k => @HC.rec (fun _ => R) (fun A B C E F G I J L M N O P Q T U => k E) p) (fun p k => @HC.rec (fun _ => R) (fun A B C E F G I J L M N O P Q T U => k F) p) (fun p k => @HC.rec (fun _ => R) (fun A B C E F G I J L M N O P Q T U => k G) p) (fun p k => @HC.rec (fun _ => R) (fun A B C E F G I J L M N O P Q T U => k I) p) (fun p k => @HC.rec (fun _ => R) (fun A B C E F G I J L M N O P Q T U => k J) p) (fun p k => @HC.rec (fun _ => R) (fun A B C E F G I J L M N O P Q T U => k L) p) (fun p k => @HC.rec (fun _ => R) (fun A B C E F G I J L M N O P Q T U => k M) p) (fun p k => @HC.rec (fun _ => R) (fun A B C E F G I J L M N O P Q T U => k N) p) (fun p k => @HC.rec (fun _ => R) (fun A B C E F G I J L M N O P Q T U => k O) p) (fun p k => @HC.rec (fun _ => R) (fun A B C E F G I J L M N O P Q T U => k P) p) (fun p k => @HC.rec (fun _ => R) (fun A B C E F G I J L M N O P Q T U => k Q) p) (fun p k => @HC.rec (fun _ => R) (fun A B C E F G I J L M N O P Q T U => k T) p) (fun p k => @HC.rec (fun _ => R) (fun A B C E F G I J L M N O P Q T U => k U) p) d
theorem HC.selR_eq (d:D) (p:HC) (k:HB->R):HC.selR d p k=k (HC.sel d p) := by
  cases d <;> cases p <;> rfl
def HC.opR (d:D):HC->(HB->(HB->(HC->R)->R)->R)->R :=
  @D.rec (fun _ => HC->(HB->(HB->(HC->R)->R)->R)->R) (fun p k => @HC.rec (fun _ => R) (fun A B C E F G I J L M N O P Q T U => k A fun v q => q (.mk v B C E F G I J L M N O P Q T U)) p) (fun p k => @HC.rec (fun _ => R) (fun A B C E F G I J L M N O P Q T U => k B fun v q => q (.mk A v C E F G I J L M N O P Q T U)) p) (fun p k => @HC.rec (fun _ => R) (fun A B C E F G I J L M N O P Q T U => k C fun v q => q (.mk A B v E F G I J L M N O P Q T U)) p) (fun p k => @HC.rec (fun _ => R) (fun A B C E F G I J L M N O P Q T U => k E fun v q => q (.mk A B C v F G I J L M N O P Q T U)) p) (fun p k => @HC.rec (fun _ => R) (fun A B C E F G I J L M N O P Q T U => k F fun v q => q (.mk A B C E v G I J L M N O P Q T U)) p) (fun p k => @HC.rec (fun _ => R) (fun A B C E F G I J L M N O P Q T U => k G fun v q => q (.mk A B C E F v I J L M N O P Q T U)) p) (fun p k => @HC.rec (fun _ => R) (fun A B C E F G I J L M N O P Q T U => k I fun v q => q (.mk A B C E F G v J L M N O P Q T U)) p) (fun p k => @HC.rec (fun _ => R) (fun A B C E F G I J L M N O P Q T U => k J fun v q => q (.mk A B C E F G I v L M N O P Q T U)) p) (fun p k => @HC.rec (fun _ => R) (fun A B C E F G I J L M N O P Q T U => k L fun v q => q (.mk A B C E F G I J v M N O P Q T U)) p) (fun p k => @HC.rec (fun _ => R) (fun A B C E F G I J L M N O P Q T U => k M fun v q => q (.mk A B C E F G I J L v N O P Q T U)) p) (fun p k => @HC.rec (fun _ => R) (fun A B C E F G I J L M N O P Q T U => k N fun v q => q (.mk A B C E F G I J L M v O P Q T U)) p) (fun p k => @HC.rec (fun _ => R) (fun A B C E F G I J L M N O P Q T U => k O fun v q => q (.mk A B C E F G I J L M N v P Q T U)) p) (fun p k => @HC.rec (fun _ => R) (fun A B C E F G I J L M N O P Q T U => k P fun v q => q (.mk A B C E F G I J L M N O v Q T U)) p) (fun p k => @HC.rec (fun _ => R) (fun A B C E F G I J L M N O P Q T U => k Q fun v q => q (.mk A B C E F G I J L M N O P v T U)) p) (fun p k => @HC.rec (fun _ => R) (fun A B C E F G I J L M N O P Q T U => k T fun v q => q (.mk A B C E F G I J L M N O P Q v U)) p) (fun p k => @HC.rec (fun _ => R) (fun A B C E F G I J L M N O P Q T U => k U fun v q => q (.mk A B C E F G I J L M N O P Q T v)) p) d
theorem HC.opR_eq (d:D) (p:HC) (k:HB->(HB->(HC->R)->R)->R):HC.opR d p k=k (HC.sel d p) fun v q => q (HC.setS d p v) := by
  cases d <;> cases p <;> rfl
def Heap.selR (d:D):Heap->(HC->R)->R :=
  @D.rec (fun _ => Heap->(HC->R)->R) (fun p k => @Heap.rec (fun _ => R) (fun A B C E F G I J L M N O P Q T U => k A) p) (fun p k => @Heap.rec (fun _ => R) (fun A B C E F G I J L M N O P Q T U => k B) p) (fun p k => @Heap.rec (fun _ => R) (fun A B C E F G I J L M N O P Q T U => k C) p) (fun p k => @Heap.rec (fun _ => R) (fun A B C E F G I J L M N O P Q T U => k E) p) (fun p k => @Heap.rec (fun _ => R) (fun A B C E F G I J L M N O P Q T U => k F) p) (fun p k => @Heap.rec (fun _ => R) (fun A B C E F G I J L M N O P Q T U => k G) p) (fun p k => @Heap.rec (fun _ => R) (fun A B C E F G I J L M N O P Q T U => k I) p) (fun p k => @Heap.rec (fun _ => R) (fun A B C E F G I J L M N O P Q T U => k J) p) (fun p k => @Heap.rec (fun _ => R) (fun A B C E F G I J L M N O P Q T U => k L) p) (fun p k => @Heap.rec (fun _ => R) (fun A B C E F G I J L M N O P Q T U => k M) p) (fun p k => @Heap.rec (fun _ => R) (fun A B C E F G I J L M N O P Q T U => k N) p) (fun p k => @Heap.rec (fun _ => R) (fun A B C E F G I J L M N O P Q T U => k O) p) (fun p k => @Heap.rec (fun _ => R) (fun A B C E F G I J L M N O P Q T U => k P) p) (fun p k => @Heap.rec (fun _ => R) (fun A B C E F G I J L M N O P Q T U => k Q) p) (fun p k => @Heap.rec (fun _ => R) (fun A B C E F G I J L M N O P Q T U => k T) p) (fun p k => @Heap.rec (fun _ => R) (fun A B C E F G I J L M N O P Q T U => k U) p) d
theorem Heap.selR_eq (d:D) (p:Heap) (k:HC->R):Heap.selR d p k=k (Heap.sel d p) := by
  cases d <;> cases p <;> rfl
def Heap.opR (d:D):Heap->(HC->(HC->(Heap->R)->R)->R)->R :=
  @D.rec (fun _ => Heap->(HC->(HC->(Heap->R)->R)->R)->R) (fun p k => @Heap.rec (fun _ => R) (fun A B C E F G I J L M N O P Q T U => k A fun v q => q (.mk v B C E F G I J L M N O P Q T U)) p) (fun p k => @Heap.rec (fun _ => R) (fun A B C E F G I J L M N O P Q T U => k B fun v q => q (.mk A v C E F G I J L M N O P Q T U)) p) (fun p k => @Heap.rec (fun _ => R) (fun A B C E F G I J L M N O P Q T U => k C fun v q => q (.mk A B v E F G I J L M N O P Q T U)) p) (fun p k => @Heap.rec (fun _ => R) (fun A B C E F G I J L M N O P Q T U => k E fun v q => q (.mk A B C v F G I J L M N O P Q T U)) p) (fun p k => @Heap.rec (fun _ => R) (fun A B C E F G I J L M N O P Q T U => k F fun v q => q (.mk A B C E v G I J L M N O P Q T U)) p) (fun p k => @Heap.rec (fun _ => R) (fun A B C E F G I J L M N O P Q T U => k G fun v q => q (.mk A B C E F v I J L M N O P Q T U)) p) (fun p k => @Heap.rec (fun _ => R) (fun A B C E F G I J L M N O P Q T U => k I fun v q => q (.mk A B C E F G v J L M N O P Q T U)) p) (fun p k => @Heap.rec (fun _ => R) (fun A B C E F G I J L M N O P Q T U => k J fun v q => q (.mk A B C E F G I v L M N O P Q T U)) p) (fun p k => @Heap.rec (fun _ => R) (fun A B C E F G I J L M N O P Q T U => k L fun v q => q (.mk A B C E F G I J v M N O P Q T U)) p) (fun p k => @Heap.rec (fun _ => R) (fun A B C E F G I J L M N O P Q T U => k M fun v q => q (.mk A B C E F G I J L v N O P Q T U)) p) (fun p k => @Heap.rec (fun _ => R) (fun A B C E F G I J L M N O P Q T U => k N fun v q => q (.mk A B C E F G I J L M v O P Q T U)) p) (fun p k => @Heap.rec (fun _ => R) (fun A B C E F G I J L M N O P Q T U => k O fun v q => q (.mk A B C E F G I J L M N v P Q T U)) p) (fun p k => @Heap.rec (fun _ => R) (fun A B C E F G I J L M N O P Q T U => k P fun v q => q (.mk A B C E F G I J L M N O v Q T U)) p) (fun p k => @Heap.rec (fun _ => R) (fun A B C E F G I J L M N O P Q T U => k Q fun v q => q (.mk A B C E F G I J L M N O P v T U)) p) (fun p k => @Heap.rec (fun _ => R) (fun A B C E F G I J L M N O P Q T U => k T fun v q => q (.mk A B C E F G I J L M N O P Q v U)) p) (fun p k => @Heap.rec (fun _ => R) (fun A B C E F G I J L M N O P Q T U => k U fun v q => q (.mk A B C E F G I J L M N O P Q T v)) p) d
theorem Heap.opR_eq (d:D) (p:Heap) (k:HC->(HC->(Heap->R)->R)->R):Heap.opR d p k=k (Heap.sel d p) fun v q => q (Heap.setS d p v) := by
  cases d <;> cases p <;> rfl
def Bz (p:K4) (h:Heap) (κ:Ck->R):R :=
  @K4.rec (fun _ => R) (fun a b c d => Heap.selR a h fun x => HC.selR b x fun y => HB.selR c y fun z => HA.selR d z κ) p
theorem BH (p:K4) (h:Heap) (κ:Ck->R):Bz p h κ=κ (A8 p h) := by
  cases p; simp only [Bz, Heap.selR_eq, HC.selR_eq, HB.selR_eq, HA.selR_eq, A8]
/-- What stands at a place, and how another thing is put there. -/
def UT (p:K4) (h:Heap) (κ:Ck->(Ck->(Heap->R)->R)->R):R :=
  @K4.rec (fun _ => R) (fun a b c d => Heap.opR a h fun x px => HC.opR b x fun y py => HB.opR c y fun z pz => HA.opR d z fun o po => κ o fun o k => po o fun z => pz z fun y => py y fun x => px x k) p
theorem NQ (p:K4) (h:Heap) (κ:Ck->(Ck->(Heap->R)->R)->R):UT p h κ=κ (A8 p h) fun o k => k (Ac p h o) := by
  cases p
  simp only [UT, Heap.opR_eq, HC.opR_eq, HB.opR_eq, HA.opR_eq, A8, Ac, DX, Heap.setK_eq, HC.setK_eq, HB.setK_eq, HA.setK_eq, Heap.selK_eq, HC.selK_eq, HB.selK_eq]
  rfl
def BQ (p:K4) (h:Heap) (o:Ck) (κ:Heap->R):R := UT p h fun _ put => put o κ
theorem BR (p:K4) (h:Heap) (o:Ck) (κ:Heap->R):BQ p h o κ=DX p h o κ := by
  rw [BQ, NQ, AR]
def Kc (p:K4) (h:Heap) (κ:Cs->Bool->Option K4->R):R :=
  Bz p h fun o => @Option.rec Ob (fun _ => R) (.fail "") (fun o => @Ob.rec (fun _ => R) κ (C8 "") (Ff "") (.fail "") (AB "") o) o
theorem DL:Kc=GV := by
  funext p h κ
  rw [Kc, BH, GV, Cm]
def RN (p:K4) (h:Heap) (κ:List (V×V)->List Nat->Nat->R):R :=
  Bz p h fun o => @Option.rec Ob (fun _ => R) (.fail "") (fun o => @Ob.rec (fun _ => R) (C8 "") κ (Ff "") (.fail "") (AB "") o) o
theorem F8:RN=Mq := by
  funext p h κ
  rw [RN, BH, Mq, Cm]
def Ds (h:Heap) (n:K4) (o:Ob) (κ:Heap->K4->R):R := BQ n h (some o) fun h' => n.nx fun n' => κ h' n'
theorem Ht:Ds=Dg := by
  funext h n o κ
  rw [Ds, BR, Dg]
def Oa (h:Heap) (p:K4) (f:Cs->(Cs->R)->R) (κ:Heap->R):R :=
  UT p h fun o put => @Option.rec Ob (fun _ => R) (.fail "") (fun o => @Ob.rec (fun _ => R) (fun cs sup prev => br sup (.fail "") (f cs fun cs' =>
    @Option.rec K4 (fun _ => R) (put (some (.c cs' false none)) κ) (fun q => BQ q h none fun h => BQ p h (some (.c cs' false none)) κ) prev)) (C8 "") (Ff "") (.fail "") (AB "") o) o
theorem Hm (h:Heap) (p:K4) (f:Cs->(Cs->R)->R) (κ:Heap->R):Oa h p f κ=GV p h fun cs sup prev => br sup (.fail "") (f cs fun cs' => Fg prev h fun h => DX p h (some (.c cs' false none)) κ) := by
  rw [Oa, NQ, GV, Cm]
  cases A8 p h with
  | none => rfl
  | some o => cases o with
    | m es bs c => rfl
    | it _ _ _ _ => rfl
    | it0 => rfl
    | lp _ _ => rfl
    | c cs sup prev =>
      show br sup _ (f cs fun cs' => _)=br sup _ (f cs fun cs' => _)
      congr 2; funext cs'
      cases prev with
      | none => exact (AR _ _ _ _).symm
      | some q => exact (BR _ _ _ _).trans (congrArg _ (funext fun h => BR _ _ _ _))
def CC (h:Heap) (p:K4) (off:Nat) (y:Cs) (κ:Heap->R):R := Oa h p (fun cs k => LV cs off y k) κ
theorem Gg:CC=E3 := by
  funext h p off y κ
  exact Hm _ _ _ _
/-- One cell put among others. -/
def XX (cs:Cs) (off:Nat) (v:V) (κ:Cs->R):R :=
  @Cs.rec (fun _ => R) (fun xs => BZ off xs v fun zs => κ (.l zs)) (fun n c => MW v (fun r => OF n c off 1 r κ) (.fail "")) cs
theorem W9 (cs:Cs) (off:Nat) (v:V) (κ:Cs->R):XX cs off v κ=LV cs off (.l [v]) κ := by
  cases cs with
  | l xs => exact Lm off xs v _
  | b n c =>
    show MW v (fun r => OF n c off 1 r κ) _=MW v (fun r => Aa (Nat.succ 0) fun n' => Aa (Nat.add r (Nat.mul 256 0)) fun d => OF n c off n' d κ) _
    congr 1; funext r
    rw [A9, A9]; rfl
def Bw (esz eb:Nat) (x:V) (m:Nat) (y:Cs) (h:Heap) (n:K4) (κ:KV):R :=
  Ef x
    (br (Nat.beq m 0) (κ (.nil .sl) h n) (br (Nat.ble (Nat.mul (Nat.add (Nat.mul 4 m) 4096) eb) 281474976710656) (Ds h n (.c y false none) fun h' n' => κ (.sl n 0 m m false esz) h' n') (.fail "")))
    (fun p off len cap ex esz' => br (Nat.beq esz' esz) (br (Nat.beq m 0) (κ x h n) (Aa (Nat.add len m) fun need =>
      br (Nat.ble need cap)
        (Aa (Nat.add off (Nat.mul len esz)) fun j => CC h p j y fun h' => κ (.sl p off need cap ex esz) h' n)
        (br (Nat.ble (Nat.mul (Nat.add (Nat.mul 4 need) 4096) eb) 281474976710656)
          (Kc p h fun cs sup prev => Aa (Nat.mul len esz) fun l => AU cs off l fun a => M8 a y fun z =>
            br ex
              (Ds h n (.c z false none) fun h' n' => κ (.sl n 0 need need false esz) h' n')
              (br sup (.fail "")
                (Aa (Nat.add off l) fun j => AU cs 0 j fun old => Fg prev h fun h => DX p h (some (.c old true none)) fun h =>
                  Ds h n (.c z false (some p)) fun h' n' => κ (.sl n 0 need need false esz) h' n')))
          (.fail "")))) (.fail ""))
theorem Qp:Bw=Ew := by
  funext esz eb x m y h n κ
  rw [Bw, Ht, Gg, DL]; rfl
def Dq (v:V) (h:Heap) (n:K4) (κ:KV):R :=
  Ee v fun l => Ds h n (.c (.l l) false none) fun h' n' => κ (.ptr n 0) h' n'
def DF (cs:Cs) (h:Heap) (n:K4) (κ:KV):R :=
  Ds h n (.c cs false none) fun h' n' => κ (.ptr n 0) h' n'
def Cl (u8:Bool) (len esz:Nat) (l:List V) (h:Heap) (n:K4) (κ:KV):R :=
  br u8 (D2 l (fun m c => Ds h n (.c (.b m c) false none) fun h' n' => κ (.sl n 0 len len true esz) h' n') (.fail "")) (Ds h n (.c (.l l) false none) fun h' n' => κ (.sl n 0 len len true esz) h' n')
def As (v:V) (h:Heap) (κ:V->R):R :=
  @V.rec (fun _ => R) (fun _ => Unit) (AB "") (AT "") (fun p off => Kc p h fun cs _ _ => EV cs off κ) (DZ "") (AB "") (AB "") (AT "") (AT "") (C8 "") (AB "") (fun o => Sv o (fun i j m => br (Nat.ble 1 m) (XV i j κ) (.fail "")) (Lw o (fun l => VJ l κ) (.fail ""))) () (fun _ _ _ _ => ()) v
def C1 (m:Nat) (v:V) (h:Heap) (κ:V->R):R :=
  LR v (fun p off => Kc p h fun cs _ _ => AU cs off m fun y => E9 y fun l => κ (.agg l)) (fun o => Lw o (fun l => br (Nat.ble m l.length) (κ (.agg ((l.take m).map RV.v))) (.fail "")) (.fail ""))
def Db (m:Nat) (u v:V) (h:Heap) (κ:Heap->R):R :=
  Ki u fun p off => Ee v fun l => FU l fun k => br (Nat.beq k m) (CC h p off (.l l) κ) (.fail "")
def IH (h:Heap) (p:K4) (off:Nat) (v:V) (κ:Heap->R):R :=
  Oa h p (fun cs k => XX cs off v k) κ
def BB (u v:V) (h:Heap) (κ:Heap->R):R :=
  @V.rec (fun _ => R) (fun _ => Unit) (AB "") (AT "") (fun p off => @V.rec (fun _ => R) (fun _ => Unit) (fun _ _ => IH h p off v κ) (fun _ => IH h p off v κ) (fun _ _ => IH h p off v κ) (fun _ _ _ _ _ _ => IH h p off v κ) (fun _ _ => IH h p off v κ) (fun l _ => FU l fun k => br (Nat.beq k 1) (CC h p off (.l l) κ) (.fail "")) (fun _ => IH h p off v κ) (fun _ => IH h p off v κ) (fun _ _ _ => IH h p off v κ) (AB "") (fun o => @Ot.rec (fun _ => R) (.fail "") (fun _ => IH h p off v κ) (AT "") (.fail "") (fun _ _ _ => IH h p off v κ) (fun _ _ => IH h p off v κ) (IH h p off v κ) (fun _ _ => IH h p off v κ) (fun _ _ _ _ => IH h p off v κ) (fun _ _ _ _ => IH h p off v κ) (fun _ _ _ => IH h p off v κ) (fun _ _ => IH h p off v κ) (fun _ _ => IH h p off v κ) (fun _ _ _ => IH h p off v κ) (fun _ => IH h p off v κ) o) () (fun _ _ _ _ => ()) v) (DZ "") (AB "") (AB "") (AT "") (AT "") (C8 "") (AB "") (AT "") () (fun _ _ _ _ => ()) u
theorem V6 (h:Heap) (p:K4) (off:Nat) (v:V) (κ:Heap->R):IH h p off v κ=CC h p off (.l [v]) κ := by
  rw [Gg, IH, Hm]
  simp only [W9]; rfl
theorem Wa (u v:V) (h:Heap) (κ:Heap->R):BB u v h κ=Db 1 u v h κ := by
  cases u with
  | ptr p off =>
    cases v with
    | agg l => rfl
    | tup l => rfl
    | oth o => cases o with
      | any => rfl
      | yl p => rfl
      | no => rfl
      | _ => exact V6 _ _ _ _ _
    | _ => exact V6 _ _ _ _ _
  | _ => rfl
abbrev Yg {β:Type} (c:Bool) (t f:β):β := @Bool.rec (fun _ => β) f t c
abbrev Vk (m:Nat) (u v:V) (h:Heap) (κ:Heap->R):R := Yg (Nat.beq m 1) (BB u v h κ) (Db m u v h κ)
theorem W4 (m:Nat) (u v:V) (h:Heap) (κ:Heap->R):Vk m u v h κ=Db m u v h κ := by
  unfold Vk
  cases hb:Nat.beq m 1 with
  | true => rw [Nat.eq_of_beq_eq_true hb]; exact Wa u v h κ
  | false => rfl
def PC (p:K4) (h:Heap) (f:List (V×V)->List Nat->Nat->(List (V×V)->List Nat->Nat->R)->R) (κ:Heap->R):R :=
  UT p h fun o put => @Option.rec Ob (fun _ => R) (.fail "") (fun o => @Ob.rec (fun _ => R) (C8 "") (fun es bs c => f es bs c fun es bs c => put (some (.m es bs c)) κ) (Ff "") (.fail "") (AB "") o) o
theorem Ig (p:K4) (h:Heap) (f:List (V×V)->List Nat->Nat->(List (V×V)->List Nat->Nat->R)->R) (κ:Heap->R):PC p h f κ=Mq p h fun es bs c => f es bs c fun es bs c => DX p h (some (.m es bs c)) κ := by
  rw [PC, NQ, Mq, Cm]
  simp only [AR]
def Au (v:V) (κ:V->R):R :=
  @V.rec (fun _ => R) (fun _ => Unit) (AB "") (AT "") (fun p off => κ v) (DZ "") (AB "") (AB "") (AT "") (AT "") (fun f caps _i => κ v) (AB "") (fun o => Lw o (fun _ => κ v) (.fail "")) () (fun _ _ _ _ => ()) v
def DY (neg:Bool) (pl:Plan) (u v:V) (κ:V->R):R :=
  LJ pl u v fun r => br neg (br r (κ (.bool false)) (κ (.bool true))) (κ (.bool r))
def Cp (v:V) (κ:V->R):R :=
  @V.rec (fun _ => R) (fun _ => Unit) (AB "") (fun q => @Bool.rec (fun _ => R) (κ (.bool true)) (κ (.bool false)) q) (AB "") (DZ "") (AB "") (AB "") (AT "") (AT "") (C8 "") (AB "") (AT "") () (fun _ _ _ _ => ()) v
def Rt (v:V) (κ:V->R):R :=
  Hy v fun k r => Ol k 0 k r κ
def RE (v:V) (κ:V->R):R :=
  Hy v fun k r => Aa (Nat.xor (Nat.sub (Mk k) 1) r) fun r => κ (.int k r)
def BI (k:IntKind) (v:V) (κ:V->R):R :=
  Hy v fun j r => br (Nat.ble (Nat.succ r) (Hk j)) (Aa (Nat.mod r (Mk k)) fun r => κ (.int k r)) (br (Nat.ble (Mk k) (Mk j)) (Aa (Nat.mod r (Mk k)) fun r => κ (.int k r)) (Aa (Nat.sub (Mk k) (Nat.sub (Mk j) r)) fun r => κ (.int k r)))
def Rl (v:V) (h:Heap) (κ:V->R):R :=
  Eb v (κ (.str 0 0)) (fun p off len cap ex esz => br (Nat.beq esz 1) (Kc p h fun cs _ _ => AU cs off len fun y => @Cs.rec (fun _ => R) (fun l => D2 l (fun m c => κ (.str m c)) (.fail "")) (fun m c => κ (.str m c)) y) (.fail "")) (fun o => HI o (fun m c => κ (.str m c)) (.fail ""))
def XY (v:V) (h:Heap) (n:K4) (κ:KV):R :=
  BC v fun m c => Ds h n (.c (.b m c) false none) fun h' n' => κ (.sl n 0 m m false 1) h' n'
def Aau (v:V) (κ:V->R):R :=
  BC v fun _ _ => κ v
def VG (v:V) (h:Heap) (κ:V->R):R :=
  Ef v (.fail "") (fun p _ _ _ _ _ => Kc p h fun _ _ _ => κ v)
def Gt (h:Heap) (n:K4) (κ:KV):R :=
  Ds h n (.m [] [] 0) fun h' n' => κ (.map n) h' n'
def Kt (eb:Nat) (u8:Bool) (zero:List V) (u v:V) (h:Heap) (n:K4) (κ:KV):R :=
  J5 u fun a => J5 v fun b => br (Nat.ble a b) (br (Nat.ble (Nat.mul eb b) 281474976710656) (EI u8 zero b fun y => Ds h n (.c y false none) fun h' n' => FU zero fun esz => κ (.sl n 0 a b true esz) h' n') (.fail "")) (.fail "")
def EF (o:Option V) (d:Nat) (κ:Nat->R):R :=
  @Option.rec V (fun _ => R) (κ d) (fun v => J5 v κ) o
def Y8 (v:V) (lo hi:Option V) (κ:V->R):R :=
  X2 v (fun l0 l1 _ _ => br (br (Ey hi) true (Nat.beq l0 l1)) (EF hi l0 fun b => EF lo 0 fun a => br (Nat.ble a b) (br (Nat.ble b l0) (Aa (Nat.sub b a) fun l => κ (.oth (.ss l l (Nat.succ l) 0))) (.fail "")) (.fail "")) (.fail "")) <| BC v fun m c => EF hi m fun b => EF lo 0 fun a => br (Nat.ble a b) (br (Nat.ble b m) (Aa (Nat.sub b a) fun l => Aa (Ev.lo (sh c a) l) fun r => κ (.str l r)) (.fail "")) (.fail "")
def DV (esz:Nat) (v:V) (lo hi:Option V) (κ:V->R):R :=
  ZL v (fun l0 l1 => br (br (Ey hi) true (Nat.beq l0 l1)) (EF hi l0 fun b => EF lo 0 fun a => br (Nat.ble a b) (br (Nat.ble b l0) (Aa (Nat.sub b a) fun l => κ (.oth (.os l l))) (.fail "")) (.fail "")) (.fail "")) <| Eb v (EF hi 0 fun b => EF lo 0 fun a => br (Nat.beq b 0) (br (Nat.beq a 0) (κ (.nil .sl)) (.fail "")) (.fail "")) (fun p off len cap ex esz' => EF hi len fun b => EF lo 0 fun a => br (Nat.beq esz' esz) (br (Nat.ble a b) (br (Nat.ble b cap) (Aa (Nat.sub b a) fun l => Aa (Nat.sub cap a) fun c => Aa (Nat.add off (Nat.mul a esz)) fun o => κ (.sl p o l c ex esz)) (.fail "")) (.fail "")) (.fail "")) (fun o => JZ o (fun l m z => EF hi m fun b => EF lo 0 fun a => br (Nat.beq z esz) (br (Nat.ble a b) (br (Nat.ble b m) (Aa (Nat.sub b a) fun k => Aa (Nat.mul a esz) fun j => Aa (Nat.mul k esz) fun q => κ (.oth (.rx ((l.drop j).take q) k esz))) (.fail "")) (.fail "")) (.fail "")) (HI o (fun m c => EF hi m fun b => EF lo 0 fun a => br (Nat.beq esz 1) (br (Nat.ble a b) (br (Nat.ble b m) (Aa (Nat.sub b a) fun k => Aa (Ev.lo (sh c a) k) fun r => κ (.oth (.rb k r))) (.fail "")) (.fail "")) (.fail "")) (.fail "")))
def U0 (m esz:Nat) (v:V) (lo hi:Option V) (h:Heap) (κ:V->R):R :=
  Ki v fun p off => Kc p h fun cs _ _ => YW cs fun z => br (Nat.ble (Nat.add off (Nat.mul m esz)) z) (EF hi m fun b => EF lo 0 fun a => br (Nat.ble a b) (br (Nat.ble b m) (Aa (Nat.sub b a) fun l => Aa (Nat.sub m a) fun c => Aa (Nat.add off (Nat.mul a esz)) fun o => κ (.sl p o l c true esz)) (.fail "")) (.fail "")) (.fail "")
def Aj (off:Nat) (v:V) (κ:V->R):R :=
  @V.rec (fun _ => R) (fun _ => Unit) (AB "") (AT "") (fun p o => Aa (Nat.add o off) fun o => κ (.ptr p o)) (DZ "") (AB "") (AB "") (AT "") (AT "") (C8 "") (AB "") (fun o => Sv o (fun i j m => br (Nat.ble (Nat.succ off) m) (Aa (Nat.add j off) fun j => Aa (Nat.sub m off) fun m => κ (.oth (.ap i j m))) (.fail "")) (Lw o (fun l => br (Nat.ble (Nat.succ off) l.length) (κ (.oth (.rp (l.drop off)))) (.fail "")) (.fail ""))) () (fun _ _ _ _ => ()) v
def Ac0 (off size:Nat) (ag:Bool) (v:V) (κ:V->R):R :=
  asAgg v fun l => br ag (DA off l fun r => D6 size r fun r => κ (.agg r)) (Dz off l κ)
def AD (esz:Nat) (v u:V) (κ:V->R):R :=
  J5 u fun a => Eb v (.fail "") (fun p off len cap ex esz' => br (Nat.beq esz' esz) (br (Nat.ble (Nat.succ a) len) (Aa (Nat.add off (Nat.mul a esz)) fun o => κ (.ptr p o)) (.fail "")) (.fail "")) (fun o => QK o (fun i lo hi z => br (Nat.beq z esz) (br (Nat.ble (Nat.succ a) lo) (Aa (Nat.mul a esz) fun j => κ (.oth (.ap i j esz))) (.fail "")) (.fail "")) (JZ o (fun l m z => br (Nat.beq z esz) (br (Nat.ble (Nat.succ a) m) (Aa (Nat.mul a esz) fun j => κ (.oth (.rp (l.drop j)))) (.fail "")) (.fail "")) (HI o (fun m c => br (Nat.beq esz 1) (br (Nat.ble (Nat.succ a) m) (Aa (Ev.lo (sh c a) 1) fun r => κ (.oth (.rp [.i .u8 r]))) (.fail "")) (.fail "")) (.fail ""))))
def JB (m esz:Nat) (v u:V) (κ:V->R):R :=
  J5 u fun a => Ki v fun p off => br (Nat.ble (Nat.succ a) m) (Aa (Nat.add off (Nat.mul a esz)) fun o => κ (.ptr p o)) (.fail "")
def Sh (v u:V) (κ:V->R):R :=
  J5 u fun a => BC v fun m c => br (Nat.ble (Nat.succ a) m) (Aa (Ev.lo (sh c a) 1) fun r => κ (.int .u8 r)) (.fail "")
def Aa5 (m esz:Nat) (ag:Bool) (v u:V) (κ:V->R):R :=
  J5 u fun a => asAgg v fun l => br (Nat.ble (Nat.succ a) m) (Aa (Nat.mul a esz) fun j => br ag (DA j l fun r => D6 esz r fun r => κ (.agg r)) (Dz j l κ)) (.fail "")
def Ji (pl:Plan) (zero:V) (ok:Bool) (u v:V) (h:Heap) (κ:V->R):R :=
  L7 pl v <| E6 u (br ok (κ (.tup [zero, .bool false])) (κ zero)) (fun p => RN p h fun es _ _ => ER pl v es (fun r => br ok (κ (.tup [r, .bool true])) (κ r)) (br ok (κ (.tup [zero, .bool false])) (κ zero)))
def Pm (pl:Plan) (u a b:V) (h:Heap) (κ:Heap->R):R :=
  L7 pl a <| E6 u (.fail "") (fun p => PC p h (fun es bs c k => EL pl a b es fun es => TI es bs c fun bs c => k es bs c) κ)
def PI (pl:Plan) (u a:V) (h:Heap) (κ:Heap->R):R :=
  L7 pl a <| E6 u (κ h) (fun p => PC p h (fun es bs c k => HE pl a es fun es2 => HJ pl a es bs fun bs => k es2 bs c) κ)
def BD (i:Nat) (v:V) (κ:V->R):R :=
  La v fun l => Dz i l κ
def Ag (r:R) (κ:KV):R :=
  @R.rec (fun _ => R) (Ff "") (fun v h n => κ v h n) (fun w => .fail w) (Ff "") r
def U2 (v:V) (κ:V->R):R :=
  X2 v (fun l0 l1 _ _ => br (Nat.ble (Nat.succ l1) 9223372036854775808) (κ (.oth (.iv .i64 l0 l1))) (.fail "")) <| BC v fun m _ => DG m κ
def Az (v:V) (κ:V->R):R :=
  Eb v (κ (.int .i64 0)) (fun p off len cap ex esz => DG len κ) (fun o => YD o (fun l0 l1 => br (Nat.ble (Nat.succ l1) 9223372036854775808) (κ (.oth (.iv .i64 l0 l1))) (.fail "")) (QK o (fun i l0 l1 z => br (Nat.ble (Nat.succ l1) 9223372036854775808) (br (Nat.beq l0 l1) (κ (.int .i64 l0)) (κ (.oth (.iv .i64 l0 l1)))) (.fail "")) (JZ o (fun l m z => DG m κ) (HI o (fun m c => DG m κ) (.fail "")))))
def Ri (v:V) (h:Heap) (κ:V->R):R :=
  E6 v (κ (.int .i64 0)) (fun p => RN p h fun es _ _ => TQ es fun m => DG m κ)
def PA (u v:V) (κ:V->R):R := Zs u v κ
def NC (u v:V) (κ:V->R):R := Zp u v κ
def Z0 (u v w:V) (κ:V->R):R :=
  Hy u fun k a => Hy v fun j b => Hy w fun i c => br (B9 k j) (br (B9 k i) (br (Dy k a b) (br (Dy k b c) (κ w) (κ v)) (br (Dy k a c) (κ w) (κ u))) (.fail "")) (.fail "")
def Aar (v:V) (κ:V->R):R :=
  Ef v (κ (.int .i64 0)) (fun p off len cap ex esz => br ex (DG cap κ) (.fail ""))
def Pb (u8:Bool) (zero:List V) (v:V) (h:Heap) (κ:Heap->R):R :=
  Ef v (κ h) (fun p off len cap ex esz => FU zero fun m => br (Nat.beq m esz) (br (Nat.beq len 0) (κ h) (EI u8 zero len fun y => CC h p off y κ)) (.fail ""))
def C5 (esz eb:Nat) (u v:V) (h:Heap) (n:K4) (κ:KV):R :=
  FR esz v h fun m y => Bw esz eb u m y h n κ
def I2 (esz eb:Nat) (u8:Bool) (zero:List V) (u v:V) (h:Heap) (n:K4) (κ:KV):R :=
  J5 v fun m => br (Nat.ble (Nat.mul eb m) 281474976710656) (EI u8 zero m fun y => Bw esz eb u m y h n κ) (.fail "")
def J2 (esz:Nat) (u v:V) (h:Heap) (κ:V->Heap->R):R :=
  FR esz v h fun m y => Ef u (κ (.int .i64 0) h) (fun p off len cap ex esz' => br (Nat.beq esz' esz) (Aa (@Bool.rec (fun _ => Nat) len m (Nat.ble m len)) fun k => br (Nat.beq k 0) (κ (.int .i64 0) h) (Aa (Nat.mul k esz) fun j => AU y 0 j fun y => CC h p off y fun h => DG k fun v => κ v h)) (.fail ""))
abbrev IU := Opd->(V->R)->R
abbrev Gf (ε:IU) (l:List Opd):(List V->R)->R :=
  @List.rec Opd (fun _ => (List V->R)->R) (fun κ => κ []) (fun o _ ih κ => ε o fun v => ih fun vs => κ (v::vs)) l
abbrev G7 (ε:IU) (o:Option Opd) (κ:Option V->R):R := @Option.rec Opd (fun _ => R) (κ none) (fun x => ε x fun v => κ (some v)) o
abbrev KO (ε:IU) (l:List Part):List V->(List V->R)->R :=
  @List.rec Part (fun _ => List V->(List V->R)->R) (fun z κ => κ z) (fun p _ ih z κ => @Part.rec (fun _ => R) (fun off size x => ε x fun v => Ih off size v z fun z => ih z κ) p) l
/-- The number of a function, as digits. -/
structure K3 where
  a:D
  b:D
  c:D
def B2 (f:Nat):K3 := ⟨D.ofN (f / 256), D.ofN (f / 16 % 16), D.ofN (f % 16)⟩
abbrev E8 := K3->List V->Heap->K4->R
def GE (cf:E8) (v:V) (l:List V) (h:Heap) (n:K4) (κ:KV):R := Qk v fun f caps => Ep l caps fun l => Ag (cf (B2 f) l h n) κ
theorem PN (n:Nat):∀ (c:Nat) (κ:Nat->Nat->R) (e:R), EZ n c (fun l => D2 l κ e)=κ n (c % 256 ^ n) := by
  induction n with
  | zero => intro c κ e; show κ 0 0=_; rw [Nat.pow_zero, Nat.mod_one]
  | succ n ih =>
    intro c κ e
    have e1:EZ (n+1) c (fun l => D2 l κ e)=Aa (lo c 1) fun r => Aa (sh c 1) fun d => EZ n d fun zs => D2 (.int .u8 r::zs) κ e := rfl
    rw [e1, A9, A9]
    have hr:lo c 1<256 := by rw [Dw]; omega
    have e2:∀ zs, D2 (.int .u8 (lo c 1)::zs) κ e=D2 zs (fun n m => Aa (Nat.succ n) fun n => Aa (Nat.add (lo c 1) (Nat.mul 256 m)) fun c => κ n c) e := fun zs => by
      have:D2 (.int .u8 (lo c 1)::zs) κ e=br (B9 .u8 .u8) (br (Nat.ble (lo c 1) 255) (D2 zs (fun n m => Aa (Nat.succ n) fun n => Aa (Nat.add (lo c 1) (Nat.mul 256 m)) fun c => κ n c) e) e) e := rfl
      rw [this, Ab.2 (show lo c 1≤255 by omega)]; rfl
    simp only [e2]
    rw [ih, A9, A9]
    have e3:Nat.add (lo c 1) (Nat.mul 256 (sh c 1 % 256 ^ n))=c % 256 ^ (n+1) := by
      rw [Dw, ET, Nat.pow_one, Nat.pow_succ', Nat.mod_mul]; rfl
    rw [e3]
theorem Un (v:V) (h:Heap) (κ:V->R):Rl v h κ=Eb v (κ (.str 0 0)) (fun p off len cap ex esz => br (Nat.beq esz 1) (GV p h fun cs _ _ => AU cs off len fun y => E9 y fun l => D2 l (fun m c => κ (.str m c)) (.fail "")) (.fail "")) (fun o => HI o (fun m c => κ (.str m c)) (.fail "")) := by
  unfold Rl
  rw [DL]
  congr 1
  funext p off len cap ex esz
  congr 1; congr 1
  funext cs sup prev
  cases cs with
  | l xs => rfl
  | b n c =>
    show br (Nat.ble (Nat.add off len) n) (Aa (lo (sh c off) len) fun r => κ (.str len r)) (.fail "")=br (Nat.ble (Nat.add off len) n) (Aa (lo (sh c off) len) fun r => EZ len r fun l => D2 l (fun m c => κ (.str m c)) (.fail "")) (.fail "")
    rw [A9, A9, PN, Dw, Nat.mod_mod]
/-- An operation whose operands are told by ε. -/
abbrev GA (o:AK):E8->IU->Heap->K4->KV->R := @AK.rec (fun _ => E8->IU->Heap->K4->KV->R)
  (fun x cf ε h n κ => ε x fun v => κ v h n)
  (fun c a b cf ε h n κ => ε c fun q => ε a fun x => ε b fun y => AW q x y fun v => κ v h n)
  (fun cs cf ε h n κ => DF cs h n κ)
  (fun x cf ε h n κ => ε x fun v => Dq v h n κ)
  (fun zero parts cf ε h n κ => KO ε parts zero fun l => κ (.agg l) h n)
  (fun u8 len esz zero parts cf ε h n κ => KO ε parts zero fun l => Cl u8 len esz l h n κ)
  (fun x cf ε h n κ => ε x fun v => As v h fun v => κ v h n)
  (fun m x cf ε h n κ => ε x fun v => C1 m v h fun v => κ v h n)
  (fun m a x cf ε h n κ => ε a fun u => ε x fun v => Vk m u v h fun h => κ Ar h n)
  (fun x cf ε h n κ => ε x fun v => Au v fun v => κ v h n)
  (fun op x y cf ε h n κ => ε x fun u => ε y fun v => Zn op u v fun v => κ v h n)
  (fun neg pl x y cf ε h n κ => ε x fun u => ε y fun v => DY neg pl u v fun v => κ v h n)
  (fun x cf ε h n κ => ε x fun v => Cp v fun v => κ v h n)
  (fun x cf ε h n κ => ε x fun v => Rt v fun v => κ v h n)
  (fun x cf ε h n κ => ε x fun v => RE v fun v => κ v h n)
  (fun k x cf ε h n κ => ε x fun v => BI k v fun v => κ v h n)
  (fun x cf ε h n κ => ε x fun v => Rl v h fun v => κ v h n)
  (fun x cf ε h n κ => ε x fun v => XY v h n κ)
  (fun x cf ε h n κ => ε x fun v => Aau v fun v => κ v h n)
  (fun x cf ε h n κ => ε x fun v => VG v h fun v => κ v h n)
  (fun f caps cf ε h n κ => Gf ε caps fun l => κ (.fn f l) h n)
  (fun  cf ε h n κ => Gt h n κ)
  (fun eb u8 zero l c cf ε h n κ => ε l fun u => ε c fun v => Kt eb u8 zero u v h n κ)
  (fun x lo hi cf ε h n κ => ε x fun v => G7 ε lo fun a => G7 ε hi fun b => Y8 v a b fun v => κ v h n)
  (fun esz x lo hi cf ε h n κ => ε x fun v => G7 ε lo fun a => G7 ε hi fun b => DV esz v a b fun v => κ v h n)
  (fun m esz x lo hi cf ε h n κ => ε x fun v => G7 ε lo fun a => G7 ε hi fun b => U0 m esz v a b h fun v => κ v h n)
  (fun off x cf ε h n κ => ε x fun v => Aj off v fun v => κ v h n)
  (fun off size ag x cf ε h n κ => ε x fun v => Ac0 off size ag v fun v => κ v h n)
  (fun esz x i cf ε h n κ => ε x fun v => ε i fun u => AD esz v u fun v => κ v h n)
  (fun m esz x i cf ε h n κ => ε x fun v => ε i fun u => JB m esz v u fun v => κ v h n)
  (fun x i cf ε h n κ => ε x fun v => ε i fun u => Sh v u fun v => κ v h n)
  (fun m esz ag x i cf ε h n κ => ε x fun v => ε i fun u => Aa5 m esz ag v u fun v => κ v h n)
  (fun pl zero ok m k cf ε h n κ => ε m fun u => ε k fun v => Ji pl zero ok u v h fun v => κ v h n)
  (fun pl m k v cf ε h n κ => ε m fun u => ε k fun a => ε v fun b => Pm pl u a b h fun h => κ Ar h n)
  (fun pl m k cf ε h n κ => ε m fun u => ε k fun a => PI pl u a h fun h => κ (.tup []) h n)
  (fun i x cf ε h n κ => ε x fun v => BD i v fun v => κ v h n)
  (fun f args cf ε h n κ => Gf ε args fun l => Ag (cf (B2 f) l h n) κ)
  (fun x args cf ε h n κ => ε x fun v => Gf ε args fun l => GE cf v l h n κ)
  (fun x cf ε h n κ => ε x fun v => U2 v fun v => κ v h n)
  (fun x cf ε h n κ => ε x fun v => Az v fun v => κ v h n)
  (fun x cf ε h n κ => ε x fun v => Ri v h fun v => κ v h n)
  (fun x y cf ε h n κ => ε x fun u => ε y fun v => PA u v fun v => κ v h n)
  (fun x y cf ε h n κ => ε x fun u => ε y fun v => NC u v fun v => κ v h n)
  (fun esz eb x y cf ε h n κ => ε x fun u => ε y fun v => C5 esz eb u v h n κ)
  (fun esz eb u8 zero x c cf ε h n κ => ε x fun u => ε c fun v => I2 esz eb u8 zero u v h n κ)
  (fun esz x y cf ε h n κ => ε x fun u => ε y fun v => J2 esz u v h fun v h => κ v h n)
  (fun x y z cf ε h n κ => ε x fun u => ε y fun v => ε z fun w => Z0 u v w fun v => κ v h n)
  (fun x cf ε h n κ => ε x fun v => Aar v fun v => κ v h n)
  (fun u8 zero x cf ε h n κ => ε x fun v => Pb u8 zero v h fun h => κ (.tup []) h n)
  (fun why cf ε h n κ => .fail "")
  o
section
variable {cf:CF} {cf2:E8} {ε:IU} {t:Regs} {h:Heap} {n:K4} {κ:KV}
theorem FY {l:List Opd} {κ:List V->R} (hh:∀ x∈l, ∀ κ, ε x κ=κ (ev x t)):Gf ε l κ=κ (l.map (ev · t)) := by
  induction l generalizing κ with
  | nil => rfl
  | cons o l ih =>
    show ε o (fun v => Gf ε l fun vs => κ (v::vs))=_
    rw [hh o (List.mem_cons_self ..), ih fun x hx => hh x (List.mem_cons_of_mem _ hx)]; rfl
theorem G4 {o:Option Opd} {κ:Option V->R} (hh:∀ x∈o.toList, ∀ κ, ε x κ=κ (ev x t)):G7 ε o κ=κ (o.map (ev · t)) := by
  cases o with
  | none => rfl
  | some x => exact hh x (by simp) _
theorem P8 {l:List Part}:∀ {z:List V} {κ:List V->R}, (∀ p∈l, ∀ κ, ε p.x κ=κ (ev p.x t))->KO ε l z κ=Dt l t z κ := by
  induction l with
  | nil => intro z κ _; rfl
  | cons p l ih =>
    intro z κ hh
    obtain ⟨off, size, x⟩ := p
    have e1:KO ε (⟨off, size, x⟩::l) z κ=ε x fun v => Ih off size v z fun z => KO ε l z κ := rfl
    have e2:Dt (⟨off, size, x⟩::l) t z κ=F9 off size (ev x t) z fun z => Dt l t z κ := Ay x t _
    have e3:ε x (fun v => Ih off size v z fun z => KO ε l z κ)=_ := hh ⟨off, size, x⟩ (by simp) _
    rw [e1, e2, e3, Qy]
    congr 1; funext z
    exact ih fun p hp => hh p (by simp [hp])
theorem QL {o:Option Opd} {d:Nat} {κ:Nat->R}:C0 o t d κ=EF (o.map (ev · t)) d κ := by
  cases o with
  | none => rfl
  | some x => exact Ay x t _
theorem Hu {k:AK} (hh:∀ x∈k.opds, ∀ κ, ε x κ=κ (ev x t)) (hcf:∀ f, cf2 (B2 f)=cf f):GA k cf2 ε h n κ=Hz k cf t h n κ := by
  cases k
  case build z ps => exact P8 fun p hp => hh p.x (List.mem_map.2 ⟨p, hp, rfl⟩)
  case bslice u8 len esz z ps =>
    have e1:GA (.bslice u8 len esz z ps) cf2 ε h n κ=KO ε ps z fun l => Cl u8 len esz l h n κ := rfl
    rw [e1, P8 fun p hp => hh p.x (List.mem_map.2 ⟨p, hp, rfl⟩)]
    simp only [Cl, Ht]; rfl
  case mkfn f l =>
    show Gf ε l (fun l => κ (.fn f l) h n)=Pw l t fun l => κ (.fn f l) h n
    rw [FY (l := l) (t := t) hh, FK]
  case call f l =>
    show Gf ε l (fun l => Ag (cf2 (B2 f) l h n) κ)=Pw l t fun l => Ag (cf f l h n) κ
    rw [FY (l := l) (t := t) hh, FK, hcf]
  case calld x l =>
    have h1:∀ κ, ε x κ=κ (ev x t) := hh x (by simp [AK.opds])
    have h2:∀ y∈l, ∀ κ, ε y κ=κ (ev y t) := fun y hy => hh y (by simp [AK.opds, hy])
    show ε x (fun v => Gf ε l fun l => GE cf2 v l h n κ)=EW x l cf t h n κ
    rw [h1, FY h2]
    simp only [EW, Ay, FK, GE, hcf]; rfl
  case slS x lo hi =>
    have h1:∀ κ, ε x κ=κ (ev x t) := hh x (by simp [AK.opds])
    have h2:∀ y∈lo.toList, ∀ κ, ε y κ=κ (ev y t) := fun y hy => hh y (by simp [AK.opds]; simp at hy; simp [hy])
    have h3:∀ y∈hi.toList, ∀ κ, ε y κ=κ (ev y t) := fun y hy => hh y (by simp [AK.opds]; simp at hy; simp [hy])
    show ε x (fun v => G7 ε lo fun a => G7 ε hi fun b => Y8 v a b fun v => κ v h n)=Ik x lo hi cf t h n κ
    rw [h1, G4 h2, G4 h3]
    simp only [Ik, Ay, QL]
    cases hi <;> rfl
  case slL e x lo hi =>
    have h1:∀ κ, ε x κ=κ (ev x t) := hh x (by simp [AK.opds])
    have h2:∀ y∈lo.toList, ∀ κ, ε y κ=κ (ev y t) := fun y hy => hh y (by simp [AK.opds]; simp at hy; simp [hy])
    have h3:∀ y∈hi.toList, ∀ κ, ε y κ=κ (ev y t) := fun y hy => hh y (by simp [AK.opds]; simp at hy; simp [hy])
    show ε x (fun v => G7 ε lo fun a => G7 ε hi fun b => DV e v a b fun v => κ v h n)=Im e x lo hi cf t h n κ
    rw [h1, G4 h2, G4 h3]
    simp only [Im, Ay, QL]
    cases hi <;> rfl
  case slA m e x lo hi =>
    have h1:∀ κ, ε x κ=κ (ev x t) := hh x (by simp [AK.opds])
    have h2:∀ y∈lo.toList, ∀ κ, ε y κ=κ (ev y t) := fun y hy => hh y (by simp [AK.opds]; simp at hy; simp [hy])
    have h3:∀ y∈hi.toList, ∀ κ, ε y κ=κ (ev y t) := fun y hy => hh y (by simp [AK.opds]; simp at hy; simp [hy])
    show ε x (fun v => G7 ε lo fun a => G7 ε hi fun b => U0 m e v a b h fun v => κ v h n)=Iu m e x lo hi cf t h n κ
    rw [h1, G4 h2, G4 h3]
    simp only [Iu, Ay, QL, U0, DL]
  case pick c a b =>
    have h1:∀ κ, ε c κ=κ (ev c t) := hh c (by simp [AK.opds])
    have h2:∀ κ, ε a κ=κ (ev a t) := hh a (by simp [AK.opds])
    have h3:∀ κ, ε b κ=κ (ev b t) := hh b (by simp [AK.opds])
    show ε c (fun q => ε a fun x => ε b fun y => AW q x y fun v => κ v h n)=Ib c a b cf t h n κ
    rw [h1, h2, h3, UW]
    simp only [Ib, Ay]
  case b2s x =>
    have h1:∀ κ, ε x κ=κ (ev x t) := hh x (by simp [AK.opds])
    show ε x (fun v => Rl v h fun v => κ v h n)=JA x cf t h n κ
    rw [h1, Un]
    simp only [JA, Ay]
  case bin op x y =>
    have h1:∀ κ, ε x κ=κ (ev x t) := hh x (by simp [AK.opds])
    have h2:∀ κ, ε y κ=κ (ev y t) := hh y (by simp [AK.opds])
    show ε x (fun u => ε y fun v => Zn op u v fun v => κ v h n)=KB op x y cf t h n κ
    rw [h1, h2, Xh]
    simp only [KB, Ay]
  all_goals
    simp only [AK.opds, List.mem_cons, List.not_mem_nil, or_false, forall_eq_or_imp, forall_eq] at hh
    simp only [GA, Hz, DF, Dq, As, C1, W4, Db, Cl, VG, XY, Gt, Kt, Ji, Pm, PI, Ri, C5, I2, J2, Ig, Ht, DL, F8, Gg, Qp, WQ, OV, J1, TB, MK, Tf, D5, SN, N0, Nv, MR, Mp, JA, Iv, N6, Nh, IN, Gq, Md, Nt, Nd, MG, N4, Me, SA, SX, Mb, Nk, NE, MP, N5, Ny, ND, N8, Jd, MD, Je, ME, Nu, Pb, Ra, Ay, hh]
    try rfl
end
end Go.Ev

namespace Go.Ev
set_option linter.unusedVariables false
/-- The place of a register that is kept. -/
structure SL where
  a:O8
  b:O4
def S.get (s:SL) (t:S):V := SQ.sel s.b (S.sel s.a t)
def S.put (s:SL) (t:S) (v:V):S := S.setS s.a t (SQ.setS s.b (S.sel s.a t) v)
theorem S.get_put_same (s:SL) (t:S) (v:V):S.get s (S.put s t v)=v := by
  simp only [S.get, S.put, S.sel_setS_same, SQ.sel_setS_same]
theorem S.get_put_ne {s s':SL} (t:S) (v:V) (h:s≠s'):S.get s' (S.put s t v)=S.get s' t := by
  obtain ⟨a, b⟩ := s
  obtain ⟨a', b'⟩ := s'
  simp only [S.get, S.put]
  by_cases ha:a=a'
  · subst ha
    rw [S.sel_setS_same]
    by_cases hb:b=b'
    · subst hb; exact absurd rfl h
    · rw [SQ.sel_setS_ne _ _ hb]
  · rw [S.sel_setS_ne _ _ ha]
abbrev Xt (b:O4) (κ:V->R) (x:SQ):R := @SQ.rec (fun _ => R) (fun d0 d1 d2 d3 => @O4.rec (fun _ => R) (κ d0) (κ d1) (κ d2) (κ d3) b) x
abbrev Xu (p:SL) (t:S) (κ:V->R):R := @SL.rec (fun _ => R) (fun a b => @S.rec (fun _ => R) (fun c0 c1 c2 c3 c4 c5 c6 c7 => @O8.rec (fun _ => R) (Xt b κ c0) (Xt b κ c1) (Xt b κ c2) (Xt b κ c3) (Xt b κ c4) (Xt b κ c5) (Xt b κ c6) (Xt b κ c7) a) t) p
abbrev Wj (b:O4) (v:V) (x:SQ) (k:SQ->R):R := @SQ.rec (fun _ => R) (fun d0 d1 d2 d3 => @O4.rec (fun _ => R) (k (.mk v d1 d2 d3)) (k (.mk d0 v d2 d3)) (k (.mk d0 d1 v d3)) (k (.mk d0 d1 d2 v)) b) x
abbrev X5 (p:SL) (t:S) (v:V) (k:S->R):R := @SL.rec (fun _ => R) (fun a b => @S.rec (fun _ => R) (fun c0 c1 c2 c3 c4 c5 c6 c7 => @O8.rec (fun _ => R) (Wj b v c0 fun x => k (.mk x c1 c2 c3 c4 c5 c6 c7)) (Wj b v c1 fun x => k (.mk c0 x c2 c3 c4 c5 c6 c7)) (Wj b v c2 fun x => k (.mk c0 c1 x c3 c4 c5 c6 c7)) (Wj b v c3 fun x => k (.mk c0 c1 c2 x c4 c5 c6 c7)) (Wj b v c4 fun x => k (.mk c0 c1 c2 c3 x c5 c6 c7)) (Wj b v c5 fun x => k (.mk c0 c1 c2 c3 c4 x c6 c7)) (Wj b v c6 fun x => k (.mk c0 c1 c2 c3 c4 c5 x c7)) (Wj b v c7 fun x => k (.mk c0 c1 c2 c3 c4 c5 c6 x)) a) t) p
theorem Z7 (b:O4) (κ:V->R) (x:SQ):Xt b κ x=κ (SQ.sel b x) := by cases x; cases b <;> rfl
theorem WK (p:SL) (t:S) (κ:V->R):Xu p t κ=κ (S.get p t) := by
  obtain ⟨a, b⟩ := p
  cases t
  cases a <;> exact Z7 _ _ _
theorem Z6 (b:O4) (v:V) (x:SQ) (k:SQ->R):Wj b v x k=k (SQ.setS b x v) := by cases x; cases b <;> rfl
theorem WZ (p:SL) (t:S) (v:V) (k:S->R):X5 p t v k=k (S.put p t v) := by
  obtain ⟨a, b⟩ := p
  have e1:X5 ⟨a, b⟩ t v k=Wj b v (S.sel a t) fun x => k (S.setS a t x) := by cases t; cases a <;> rfl
  rw [e1, Z6]; rfl
/-- The registers that are kept, and where. -/
abbrev SM := List (K2×SL)
abbrev I8 (p:K2) (sm:SM) (κ:SL->R) (e:R):R :=
  @List.rec (K2×SL) (fun _ => R) e (fun x _ ih => @Prod.rec K2 SL (fun _ => R) (fun q s => Yg (K2.beq q p) (κ s) ih) x) sm
def CK (p:K2):SM->Option SL
  | [] => none
  | x::l => br (K2.beq x.1 p) (some x.2) (CK p l)
theorem Nm (p:K2) (sm:SM) (κ:SL->R) (e:R):I8 p sm κ e=match CK p sm with | some s => κ s | none => e := by
  induction sm with
  | nil => rfl
  | cons x l ih =>
    obtain ⟨q, s⟩ := x
    have e1:I8 p ((q, s)::l) κ e=Yg (K2.beq q p) (κ s) (I8 p l κ e) := rfl
    rw [e1, ih]
    simp only [CK]
    cases K2.beq q p <;> rfl
def O8.beq (a b:O8):Bool := Nat.beq (@O8.rec (fun _ => Nat) 0 1 2 3 4 5 6 7 a) (@O8.rec (fun _ => Nat) 0 1 2 3 4 5 6 7 b)
def O4.beq (a b:O4):Bool := Nat.beq (@O4.rec (fun _ => Nat) 0 1 2 3 a) (@O4.rec (fun _ => Nat) 0 1 2 3 b)
theorem O8.beq_self (a:O8):a.beq a=true := by cases a <;> rfl
theorem O4.beq_self (a:O4):a.beq a=true := by cases a <;> rfl
def SL.beq (s s':SL):Bool := and (s.a.beq s'.a) (s.b.beq s'.b)
/-- No two registers at one place. -/
def Qe:SM->Bool
  | [] => true
  | x::l => (l.all fun y => !SL.beq x.2 y.2)&&Qe l
theorem Hj {p:K2} {s:SL}:∀ {sm:SM}, CK p sm=some s->(p, s)∈sm
  | [], h => by cases h
  | x::l, h => by
    simp only [CK] at h
    cases hb:K2.beq x.1 p with
    | true =>
      rw [hb] at h
      have h:some x.2=some s := h
      cases h
      rw [←K2.beq_iff.1 hb]
      exact List.mem_cons_self ..
    | false => rw [hb] at h; exact List.mem_cons_of_mem _ (Hj h)
theorem OM:∀ {sm:SM}, Qe sm=true->∀ {p q:K2} {s:SL}, CK p sm=some s->CK q sm=some s->p=q
  | [], _, p, q, s, h, _ => by cases h
  | x::l, hok, p, q, s, hp, hq => by
    simp only [Qe, Bool.and_eq_true] at hok
    have no:∀ r, (r, x.2) ∉ l := fun r hr => by
      have := List.all_eq_true.1 hok.1 _ hr
      simp [SL.beq, O8.beq_self, O4.beq_self] at this
    simp only [CK] at hp hq
    cases hbp:K2.beq x.1 p with
    | true =>
      rw [hbp] at hp
      have hp:some x.2=some s := hp
      cases hp
      cases hbq:K2.beq x.1 q with
      | true => rw [←K2.beq_iff.1 hbp, ←K2.beq_iff.1 hbq]
      | false => rw [hbq] at hq; exact absurd (Hj hq) (no _)
    | false =>
      rw [hbp] at hp
      cases hbq:K2.beq x.1 q with
      | true =>
        rw [hbq] at hq
        have hq:some x.2=some s := hq
        cases hq
        exact absurd (Hj hp) (no _)
      | false => rw [hbq] at hq; exact OM hok.2 hp hq
abbrev GM := List (K2×V)
abbrev Uv (p:K2) (env:GM) (κ:V->R) (e:R):R :=
  @List.rec (K2×V) (fun _ => R) e (fun x _ ih => @Prod.rec K2 V (fun _ => R) (fun q v => Yg (K2.beq q p) (κ v) ih) x) env
abbrev BE (sm:SM) (env:GM) (t:S):IU := fun o κ => @Opd.rec (fun _ => R) (fun p => Uv p env κ (I8 p sm (fun s => Xu s t κ) (.fail ""))) (fun v => κ v) o
abbrev Du (sm:SM) (d:Option K2) (t:S) (v:V) (κ:S->R):R :=
  @Option.rec K2 (fun _ => R) (κ t) (fun p => I8 p sm (fun s => X5 s t v κ) (κ t)) d
abbrev C6 (d:Option K2) (v:V) (env:GM):GM := @Option.rec K2 (fun _ => GM) env (fun p => (p, v)::env) d
def O9 (w:Bool) (v:V) (yes no:R):R :=
  @V.rec (fun _ => R) (fun _ => Unit) (fun _ _ => no) (fun b => br (Bool.rec (Bool.rec true false b) b w) yes no) (fun _ _ => no) (fun _ _ _ _ _ _ => no) (fun _ _ => no) (fun _ _ => no) (fun _ => no) (fun _ => no) (fun _ _ _ => no) (fun _ _ => no) (fun o => .fail "") () (fun _ _ _ _ => ()) v
/-- A guarded operation and what comes behind it. -/
def gd (w:Bool) (v:V) (F:KV->R) (κ:KV) (h:Heap) (n:K4):R := O9 w v (F κ) (κ Ar h n)
def TJ (w:Bool) (v:V) (F:(V->R)->R) (κ:V->R):R := O9 w v (F κ) (κ Ar)
def gd0 (w:Bool) (v:V) (F:R->R) (κ:R):R := O9 w v (F κ) κ
abbrev I4 (g:Option (K2×Bool)) (ε:IU) (F:KV->R) (κ:KV) (h:Heap) (n:K4):R :=
  @Option.rec (K2×Bool) (fun _ => R) (F κ) (fun p => @Prod.rec K2 Bool (fun _ => R) (fun r w => ε (.t r) fun v => gd w v F κ h n) p) g
abbrev Lb (g:Option (K2×Bool)) (ε:IU) (F:(V->R)->R) (κ:V->R):R :=
  @Option.rec (K2×Bool) (fun _ => R) (F κ) (fun p => @Prod.rec K2 Bool (fun _ => R) (fun r w => ε (.t r) fun v => TJ w v F κ) p) g
abbrev QU (g:Option (K2×Bool)) (ε:IU) (F:R->R) (κ:R):R :=
  @Option.rec (K2×Bool) (fun _ => R) (F κ) (fun p => @Prod.rec K2 Bool (fun _ => R) (fun r w => ε (.t r) fun v => gd0 w v F κ) p) g
abbrev Dx (sm:SM) (cf:E8) (l:List AOp):GM->S->Heap->K4->(GM->S->Heap->K4->R)->R :=
  @List.rec AOp (fun _ => GM->S->Heap->K4->(GM->S->Heap->K4->R)->R) (fun env t h n κ => κ env t h n)
    (fun o _ ih env t h n κ => @AOp.rec (fun _ => R) (fun d g k => I4 g (BE sm env t) (GA k cf (BE sm env t) h n) (fun v h n => Du sm d t v fun t => ih (C6 d v env) t h n κ) h n) o) l
def AX (r:R) (κ:V->R):R := @R.rec (fun _ => R) (Ff "") (fun v h n => κ v) (fun w => .fail w) (Ff "") r
abbrev FW (sm:SM) (cf:E8) (b:K4) (i:Item) (env:GM) (t:S) (h0 h1:Heap) (n:K4) (κ:GM->S->Heap->Heap->K4->R):R :=
  @Item.rec (fun _ => R)
    (fun _ o => @AOp.rec (fun _ => R) (fun d g k => Lb g (BE sm env t) (AX (GA k cf (BE sm env t) h0 n Kh)) (fun v => Du sm d t v fun t => κ (C6 d v env) t h0 h1 n)) o)
    (fun _ o => @AOp.rec (fun _ => R) (fun d g k => I4 g (BE sm env t) (FM (GA k cf (BE sm env t) h1 n R.rv)) (fun v h n => Du sm d t v fun t => κ (C6 d v env) t h h n) h1 n) o)
    (fun _ j o => @AOp.rec (fun _ => R) (fun d g k => I4 g (BE sm env t) (fun κ => b.at j fun r => Bz r h1 fun x => G9 x (FM (GA k cf (BE sm env t) h1 r R.rv) κ)) (fun v h _ => Du sm d t v fun t => κ (C6 d v env) t h0 h n) h1 n) o)
    (fun _ o => @AOp.rec (fun _ => R) (fun d g k => QU g (BE sm env t) (fun e => TS d fun p => AX (GA k cf (BE sm env t) h0 n Kh) fun v => BE sm env t (.t p) fun x => BV x v e) (κ env t h0 h1 n)) o)
    (fun j => b.at j fun r => Bz r h0 fun x => G9 x (κ env t h0 h1 n))
    (fun _ j o => @AOp.rec (fun _ => R) (fun d g k => Lb g (BE sm env t) (fun κ => b.at j fun r => Bz r h1 fun x => Zt x fun ob => BQ r AM (some ob) fun hx => AX (GA k cf (BE sm env t) hx n Kh) κ) (fun v => Du sm d t v fun t => κ (C6 d v env) t h0 h1 n)) o) i
abbrev E5 (sm:SM) (cf:E8) (b:K4) (l:List Item):GM->S->Heap->Heap->K4->(GM->S->Heap->Heap->K4->R)->R :=
  @List.rec Item (fun _ => GM->S->Heap->Heap->K4->(GM->S->Heap->Heap->K4->R)->R) (fun env t h0 h1 n κ => κ env t h0 h1 n)
    (fun i _ ih env t h0 h1 n κ => FW sm cf b i env t h0 h1 n fun env t h0 h1 n => ih env t h0 h1 n κ) l
def HN (sm:SM) (p:K2):Bool := @Option.rec SL (fun _ => Bool) false (fun _ => true) (CK p sm)
def Ea (sm:SM) (dom:List K2) (p:K2):Bool := WR p dom || HN sm p
def Qr (sm:SM) (dom:List K2) (o:AOp):Bool := o.slots.all (Ea sm dom)
def Gv (d:Option K2) (dom:List K2):List K2 := match d with | none => dom | some p => p::dom
def GG (sm:SM):List AOp->List K2->Bool
  | [], _ => true
  | o::l, dom => Qr sm dom o&&GG sm l (Gv o.dst dom)
def CZ:List AOp->List K2->List K2
  | [], dom => dom
  | o::l, dom => CZ l (Gv o.dst dom)
def Item.op:Item->Option AOp
  | .rd _ o => some o
  | .ef _ o => some o
  | .al _ _ o => some o
  | .rn _ _ o => some o
  | _ => none
def Qq (sm:SM) (dom:List K2):Item->Bool
  | .rd _ o => Qr sm dom o
  | .ef _ o => Qr sm dom o
  | .al _ _ o => Qr sm dom o
  | .rn _ _ o => Qr sm dom o
  | .ck _ o => Qr sm dom o&&match o.dst with | some p => Ea sm dom p | none => true
  | .no _ => true
def O5 (i:Item) (dom:List K2):List K2 := match i.op with | some o => Gv o.dst dom | none => dom
def IW (sm:SM):List Item->List K2->Bool
  | [], _ => true
  | i::l, dom => Qq sm dom i&&IW sm l (O5 i dom)
def IP:List Item->List K2->List K2
  | [], dom => dom
  | i::l, dom => IP l (O5 i dom)
section
variable {P:Program} {ρ:Env} {B N:Nat} {cf:CF} {cf2:E8} {sm:SM}
def FE (p:K2):GM->Option V
  | [] => none
  | x::l => br (K2.beq x.1 p) (some x.2) (FE p l)
theorem DO {p:K2} {v:V} {env:GM}:FE p ((p, v)::env)=some v := by
  simp only [FE, K2.beq_iff.2 rfl]; rfl
theorem Ge {p q:K2} {v:V} {env:GM} (h:p≠q):FE q ((p, v)::env)=FE q env := by
  have:K2.beq p q=false := by
    cases hb:K2.beq p q with
    | false => rfl
    | true => exact absurd (K2.beq_iff.1 hb) h
  simp only [FE, this]; rfl
theorem Xm (p:K2) (env:GM) (κ:V->R) (e:R):Uv p env κ e=match FE p env with | some v => κ v | none => e := by
  induction env with
  | nil => rfl
  | cons x l ih =>
    obtain ⟨q, v⟩ := x
    have e1:Uv p ((q, v)::l) κ e=Yg (K2.beq q p) (κ v) (Uv p l κ e) := rfl
    rw [e1, ih]
    by_cases h:q=p
    · subst h; rw [DO, K2.beq_iff.2 rfl]
    · rw [Ge h]
      have:K2.beq q p=false := by
        cases hb:K2.beq q p with
        | false => rfl
        | true => exact absurd (K2.beq_iff.1 hb) h
      rw [this]
/-- The full registers t, those kept t', and what the region has told. -/
structure RI (sm:SM) (dom:List K2) (env:GM) (t:Regs) (t':S):Prop where
  inj:∀ {p q s}, CK p sm=some s->CK q sm=some s->p=q
  told:∀ p v, FE p env=some v->Bx p t=v
  dom:∀ p, p∈dom->∃ v, FE p env=some v
  keep:∀ p s, CK p sm=some s->S.get s t'=Bx p t
theorem QG {p:K2} (h:HN sm p=true):∃ s, CK p sm=some s := by
  unfold HN at h
  cases hf:CK p sm with
  | none => rw [hf] at h; cases h
  | some s => exact ⟨s, rfl⟩
theorem RI.tell {dom:List K2} {env:GM} {t:Regs} {t':S} (r:RI sm dom env t t') {p:K2} (h:Ea sm dom p=true) (κ:V->R):BE sm env t' (.t p) κ=κ (Bx p t) := by
  have e1:BE sm env t' (.t p) κ=Uv p env κ (I8 p sm (fun s => Xu s t' κ) (.fail "")) := rfl
  rw [e1, Xm, Nm]
  cases hf:FE p env with
  | some v => rw [r.told p v hf]
  | none =>
    have hk:HN sm p=true := by
      unfold Ea at h
      rw [Bool.or_eq_true] at h
      rcases h with h | h
      · obtain ⟨v, hv⟩ := r.dom p (OJ.1 h); rw [hf] at hv; cases hv
      · exact h
    obtain ⟨s, hs⟩ := QG hk
    rw [hs]
    show Xu s t' κ=_
    rw [WK, r.keep p s hs]
theorem RI.tells {dom:List K2} {env:GM} {t:Regs} {t':S} (r:RI sm dom env t t') {o:AOp} (h:Qr sm dom o=true):(∀ x∈o.k.opds, ∀ κ, BE sm env t' x κ=κ (ev x t))∧(∀ p w, o.g=some (p, w)->∀ κ, BE sm env t' (.t p) κ=κ (Bx p t)) := by
  have h := List.all_eq_true.1 h
  refine ⟨fun x hx κ => ?_, fun p w hg κ => r.tell (h p ?_) κ⟩
  · cases x with
    | c v => rfl
    | t p => exact r.tell (h p (List.mem_append_left _ (List.mem_filterMap.2 ⟨.t p, hx, rfl⟩))) κ
  · refine List.mem_append_right _ ?_
    rw [hg]; simp
theorem RI.start (hi:∀ {p q s}, CK p sm=some s->CK q sm=some s->p=q) {t:Regs} {t':S} (h:∀ p s, CK p sm=some s->S.get s t'=Bx p t):RI sm [] [] t t' :=
  ⟨hi, fun p v h => (by simp [FE] at h), fun p h => (by simp at h), h⟩
theorem RI.put {dom:List K2} {env:GM} {t:Regs} {t':S} (r:RI sm dom env t t') (d:Option K2) (v:V) (κ:S->R) :
    ∃ t1', Du sm d t' v κ=κ t1'∧RI sm (Gv d dom) (C6 d v env) (DC d t v) t1' := by
  cases d with
  | none => exact ⟨t', rfl, r⟩
  | some p =>
    have e1:Du sm (some p) t' v κ=I8 p sm (fun s => X5 s t' v κ) (κ t') := rfl
    have e2:C6 (some p) v env=(p, v)::env := rfl
    have told:∀ q u, FE q ((p, v)::env)=some u->Bx q (DC (some p) t v)=u := fun q u hq => by
      by_cases e:p=q
      · subst e; rw [DO] at hq; cases hq; exact B6 _ _ _
      · rw [Ge e] at hq
        rw [show Bx q (DC (some p) t v)=Bx q t from BN _ _ e]; exact r.told q u hq
    have dm:∀ q, q∈Gv (some p) dom->∃ u, FE q ((p, v)::env)=some u := fun q hq => by
      by_cases e:p=q
      · subst e; exact ⟨v, DO⟩
      · rw [Ge e]
        rcases List.mem_cons.1 hq with h | h
        · exact absurd h.symm e
        · exact r.dom q h
    rw [e1, Nm]
    cases hk:CK p sm with
    | some s =>
      refine ⟨S.put s t' v, WZ _ _ _ _, ?_⟩
      rw [e2]
      refine ⟨r.inj, told, dm, fun q s' hq => ?_⟩
      show S.get s' (S.put s t' v)=Bx q (EN p t v)
      by_cases e:p=q
      · subst e
        rw [hk] at hq; cases hq
        rw [B6, S.get_put_same]
      · have hs:s≠s' := fun hs => e (r.inj (hs ▸ hk) hq)
        rw [BN _ _ e, S.get_put_ne _ _ hs]; exact r.keep q s' hq
    | none =>
      refine ⟨t', rfl, ?_⟩
      rw [e2]
      refine ⟨r.inj, told, dm, fun q s' hq => ?_⟩
      have e:p≠q := fun e => by subst e; rw [hk] at hq; cases hq
      show S.get s' t'=Bx q (EN p t v)
      rw [BN _ _ e]; exact r.keep q s' hq
theorem Jm {p:K2} {w:Bool} {t:Regs} {yes no:R}:O9 w (Bx p t) yes no=D1 (some (p, w)) t yes no := (CV p t _).symm
theorem Jt {g:Option (K2×Bool)} {ε:IU} {t:Regs} {F:KV->R} {κ:KV} {h:Heap} {n:K4} (hh:∀ p w, g=some (p, w)->∀ κ, ε (.t p) κ=κ (Bx p t)):I4 g ε F κ h n=D1 g t (F κ) (κ Ar h n) := by
  cases g with
  | none => rfl
  | some pw =>
    obtain ⟨p, w⟩ := pw
    exact (hh p w rfl _).trans Jm
theorem ML {g:Option (K2×Bool)} {ε:IU} {t:Regs} {F:(V->R)->R} {κ:V->R} (hh:∀ p w, g=some (p, w)->∀ κ, ε (.t p) κ=κ (Bx p t)):Lb g ε F κ=D1 g t (F κ) (κ Ar) := by
  cases g with
  | none => rfl
  | some pw =>
    obtain ⟨p, w⟩ := pw
    exact (hh p w rfl _).trans Jm
theorem TG {g:Option (K2×Bool)} {ε:IU} {t:Regs} {F:R->R} {κ:R} (hh:∀ p w, g=some (p, w)->∀ κ, ε (.t p) κ=κ (Bx p t)):QU g ε F κ=D1 g t (F κ) κ := by
  cases g with
  | none => rfl
  | some pw =>
    obtain ⟨p, w⟩ := pw
    exact (hh p w rfl _).trans Jm
def PE (cf:CF) (o:AOp) (t:Regs) (h:Heap) (n:K4) (κ:KV):R := D1 o.g t (Hz o.k cf t h n κ) (κ Ar h n)
theorem Qh (hρ:BK ρ) (hcf:Ei P ρ B cf) {ops:Array Oper} {o:Oper} {ao:AOp} (hc:JP P N ops o=some ao) {t:Regs} {h:Heap} {n:K4} {κ:KV} (hg:(PE cf ao t h n κ).good) :
    ∃ v h1 n1, PE cf ao t h n κ=κ v h1 n1 ∧ ∀ φ a w, TR ρ N φ t a->Gam ρ B h n φ w->∀ (K:Act->World->Prop) (Q:Exit->Act->World->Prop),
      (∀ φ' a' w', Fr h h1 φ φ' n n1 w w'->Gam ρ B h1 n1 φ' w'->TR ρ N φ' (DC ao.dst t v) a'->K a' w')->Cj P ops o a w K Q := by
  obtain ⟨hd, hgd, hk⟩ := BU hc
  rcases GR (ρ := ρ) (o := o) (show R.good (D1 _ _ _ _) from hg) hgd with ⟨e1, hw⟩ | ⟨e1, hw⟩
  · have e1:PE cf ao t h n κ=_ := e1
    rw [e1] at hg
    have hs:CU P ρ B N o (Hz ao.k cf t h n) t h n := by
      rcases hk with hk | ⟨why, hk⟩
      · exact Ll hρ hcf hk
      · rw [hk]; exact SW (cf := cf) (why := why)
    obtain ⟨v, h1, n1, e2, hstep⟩ := hs _ hg
    refine ⟨v, h1, n1, e1.trans e2, fun φ a w hT g K Q hK => ?_⟩
    unfold Cj
    rw [if_pos (hw φ a hT)]
    exact hstep φ a w hT g K Q fun φ' x w' f1 g1 r1 => hK φ' _ w' f1 g1 ((hT.mono f1.ext).puts hd r1)
  · have e1:PE cf ao t h n κ=_ := e1
    refine ⟨Ar, h, n, e1, fun φ a w hT g K Q hK => ?_⟩
    unfold Cj
    rw [if_neg (by rw [hw φ a hT]; simp)]
    exact hK φ _ w (Fr.refl h φ n w) g (hT.puts hd F4)
/-- A list of operations, and what comes behind it. -/
def FL (P:Program) (ops:Array Oper) (Q:Exit->Act->World->Prop) (K:Act->World->Prop):List Oper->Act->World->Prop
  | [], a, w => K a w
  | o::rest, a, w => if Region.wanted o (yielded ops a.tmps)=true then o.wp P a w (FL P ops Q K rest) Q else FL P ops Q K rest (a.put o.dst undef) w
theorem Gx {ops:Array Oper} {Q:Exit->Act->World->Prop} {r:List Oper}:∀ {l:List Oper} {a:Act} {w:World}, FL P ops Q (wpList P ops Q r) l a w->wpList P ops Q (l++r) a w
  | [], _, _, h => h
  | o::l, a, w, h => by
    show wpList P ops Q (o::(l++r)) a w
    simp only [wpList]
    unfold FL at h
    split
    · rw [if_pos (by assumption)] at h
      refine .inl ?_
      exact Oper.wp_mono (fun a w h => Gx h) h
    · rw [if_neg (by assumption)] at h; exact Gx h
theorem DQ (hρ:BK ρ) (hcf:Ei P ρ B cf) (h2:∀ f, cf2 (B2 f)=cf f) {ops:Array Oper}:∀ {l:List Oper} {al:List AOp} {dom:List K2} {env:GM} {t:Regs} {t':S} {h:Heap} {n:K4} {κ:GM->S->Heap->K4->R},
    HH P N ops l=some al->GG sm al dom=true->RI sm dom env t t'->(Dx sm cf2 al env t' h n κ).good →
    ∃ env1 t1 t1' h1 n1, Dx sm cf2 al env t' h n κ=κ env1 t1' h1 n1∧RI sm (CZ al dom) env1 t1 t1' ∧ ∀ φ a w, TR ρ N φ t a->Gam ρ B h n φ w->∀ (Q:Exit->Act->World->Prop) (K:Act->World->Prop),
      (∀ φ' a' w', Fr h h1 φ φ' n n1 w w'->Gam ρ B h1 n1 φ' w'->TR ρ N φ' t1 a'->K a' w')->FL P ops Q K l a w
  | [], al, dom, env, t, t', h, n, κ, hc, hok, ri, hg => by
    simp only [HH, Option.some.injEq] at hc; subst hc
    exact ⟨env, t, t', h, n, rfl, ri, fun φ a w hT g Q K hQ => hQ φ a w (Fr.refl h φ n w) g hT⟩
  | o::l, al, dom, env, t, t', h, n, κ, hc, hok, ri, hg => by
    simp only [HH] at hc
    split at hc
    · rename_i ao al' ho hl
      cases hc
      simp only [GG, Bool.and_eq_true] at hok
      have ht := ri.tells hok.1
      have e0:Dx sm cf2 (ao::al') env t' h n κ=I4 ao.g (BE sm env t') (GA ao.k cf2 (BE sm env t') h n) (fun v h n => Du sm ao.dst t' v fun t => Dx sm cf2 al' (C6 ao.dst v env) t h n κ) h n := by cases ao; rfl
      have e1:Dx sm cf2 (ao::al') env t' h n κ=PE cf ao t h n (fun v h n => Du sm ao.dst t' v fun t => Dx sm cf2 al' (C6 ao.dst v env) t h n κ) := by
        rw [e0, Jt ht.2, Hu ht.1 h2]; rfl
      rw [e1] at hg ⊢
      obtain ⟨v, h1, n1, e2, H1⟩ := Qh (B := B) hρ hcf ho hg
      rw [e2] at hg ⊢
      obtain ⟨t1', e3, ri1⟩ := ri.put ao.dst v (fun t => Dx sm cf2 al' (C6 ao.dst v env) t h1 n1 κ)
      rw [e3] at hg ⊢
      obtain ⟨env2, t2, t2', hh2, n2, e4, ri2, H2⟩ := DQ hρ hcf h2 hl hok.2 ri1 hg
      refine ⟨env2, t2, t2', hh2, n2, e4, ri2, fun φ a w hT g Q K hQ => ?_⟩
      have := H1 φ a w hT g (FL P ops Q K l) Q fun φ' a' w' f1 g1 T1 => H2 φ' a' w' T1 g1 Q K fun φ2 a2 w2 f2 g2 T2 => hQ φ2 a2 w2 (Fr.trans f1 f2) g2 T2
      exact this
    · cases hc
theorem QQ (hρ:BK ρ) (hcf:Ei P ρ B cf) (h2:∀ f, cf2 (B2 f)=cf f) {ops:Array Oper} {l:List Oper} {al:List AOp} {dom:List K2} {env:GM} {t:Regs} {t':S} {h:Heap} {n:K4} {κ:GM->S->Heap->K4->R}
    (hc:HH P N ops l=some al) (hok:GG sm al dom=true) (ri:RI sm dom env t t') (hg:(Dx sm cf2 al env t' h n κ).good) :
    ∃ env1 t1 t1' h1 n1, Dx sm cf2 al env t' h n κ=κ env1 t1' h1 n1∧RI sm (CZ al dom) env1 t1 t1' ∧ ∀ φ a w, TR ρ N φ t a->Gam ρ B h n φ w->∀ (Q:Exit->Act->World->Prop),
      (∀ φ' a' w', Fr h h1 φ φ' n n1 w w'->Gam ρ B h1 n1 φ' w'->TR ρ N φ' t1 a'->Q .normal a' w')->wpList P ops Q l a w := by
  obtain ⟨env1, t1, t1', h1, n1, e1, ri1, H⟩ := DQ hρ hcf h2 hc hok ri hg
  exact ⟨env1, t1, t1', h1, n1, e1, ri1, fun φ a w hT g Q hQ => by have := Gx (r := []) (H φ a w hT g Q (wpList P ops Q []) hQ); rwa [List.append_nil] at this⟩
theorem Lv {r:R} {κ:V->R} (hg:(AX r κ).good):∃ v h n, r = .rv v h n∧AX r κ=κ v := by
  cases r with
  | ok e t h n => exact hg.elim
  | rv v h n => exact ⟨v, h, n, rfl, rfl⟩
  | fail w => exact hg.elim
  | both a b => exact hg.elim
theorem PB (h2:∀ f, cf2 (B2 f)=cf f) {b:K4} {i:Item} {dom:List K2} {env:GM} {s:St} {t':S} {κ:GM->S->Heap->Heap->K4->R} (hok:Qq sm dom i=true) (ri:RI sm dom env s.t t') (hg:(FW sm cf2 b i env t' s.h0 s.h1 s.n κ).good) :
    ∃ s' env1 t1', IE cf b i s s'∧RI sm (O5 i dom) env1 s'.t t1'∧FW sm cf2 b i env t' s.h0 s.h1 s.n κ=κ env1 t1' s'.h0 s'.h1 s'.n := by
  obtain ⟨t, h0, h1, n⟩ := s
  cases i with
  | rd i o =>
    have ht := ri.tells hok
    have e0:FW sm cf2 b (.rd i o) env t' h0 h1 n κ=Lb o.g (BE sm env t') (AX (GA o.k cf2 (BE sm env t') h0 n Kh)) (fun v => Du sm o.dst t' v fun t => κ (C6 o.dst v env) t h0 h1 n) := by cases o; rfl
    simp only [e0] at hg ⊢
    rw [ML ht.2, Hu ht.1 h2] at hg ⊢
    rcases Fl hg with hy | hn
    · rw [hy] at hg
      obtain ⟨v, h, n', e1, e2⟩ := Lv hg
      obtain ⟨t1', e3, ri1⟩ := ri.put o.dst v (fun t => κ (C6 o.dst v env) t h0 h1 n)
      exact ⟨_, _, _, .inl ⟨hy, v, h, n', e1, rfl⟩, ri1, by rw [hy, e2, e3]⟩
    · obtain ⟨t1', e3, ri1⟩ := ri.put o.dst Ar (fun t => κ (C6 o.dst Ar env) t h0 h1 n)
      exact ⟨_, _, _, .inr ⟨hn, rfl⟩, ri1, by rw [hn, e3]⟩
  | ef i o =>
    have ht := ri.tells hok
    have e0:FW sm cf2 b (.ef i o) env t' h0 h1 n κ=I4 o.g (BE sm env t') (FM (GA o.k cf2 (BE sm env t') h1 n R.rv)) (fun v h n => Du sm o.dst t' v fun t => κ (C6 o.dst v env) t h h n) h1 n := by cases o; rfl
    simp only [e0] at hg ⊢
    rw [Jt ht.2, Hu ht.1 h2] at hg ⊢
    rcases Fl hg with hy | hn
    · rw [hy] at hg
      obtain ⟨v, h, n', e1, e2⟩ := PR hg
      obtain ⟨t1', e3, ri1⟩ := ri.put o.dst v (fun t => κ (C6 o.dst v env) t h h n')
      exact ⟨_, _, _, .inl ⟨hy, v, h, n', e1, rfl⟩, ri1, by rw [hy, e2, e3]⟩
    · obtain ⟨t1', e3, ri1⟩ := ri.put o.dst Ar (fun t => κ (C6 o.dst Ar env) t h1 h1 n)
      exact ⟨_, _, _, .inr ⟨hn, rfl⟩, ri1, by rw [hn, e3]⟩
  | al i j o =>
    have ht := ri.tells hok
    have e0:FW sm cf2 b (.al i j o) env t' h0 h1 n κ=I4 o.g (BE sm env t') (fun κ => G9 (A8 (Ez b j) h1) (FM (GA o.k cf2 (BE sm env t') h1 (Ez b j) R.rv) κ)) (fun v h _ => Du sm o.dst t' v fun t => κ (C6 o.dst v env) t h0 h n) h1 n := by
      have:∀ κ:KV, (b.at j fun r => Bz r h1 fun x => G9 x (FM (GA o.k cf2 (BE sm env t') h1 r R.rv) κ))=G9 (A8 (Ez b j) h1) (FM (GA o.k cf2 (BE sm env t') h1 (Ez b j) R.rv) κ) := fun κ => by
        rw [K4.at_eq, BH]; rfl
      cases o
      simp only [←this]
    simp only [e0] at hg ⊢
    rw [Jt ht.2, Hu ht.1 h2] at hg ⊢
    rcases Fl hg with hy | hn
    · rw [hy] at hg
      obtain ⟨h3, e3⟩ := KA hg
      rw [e3] at hg
      obtain ⟨v, h, n', e1, e2⟩ := PR hg
      obtain ⟨t1', e4, ri1⟩ := ri.put o.dst v (fun t => κ (C6 o.dst v env) t h0 h n)
      exact ⟨_, _, _, .inl ⟨hy, h3, v, h, n', e1, rfl⟩, ri1, by rw [hy, e3, e2, e4]⟩
    · obtain ⟨t1', e3, ri1⟩ := ri.put o.dst Ar (fun t => κ (C6 o.dst Ar env) t h0 h1 n)
      exact ⟨_, _, _, .inr ⟨hn, rfl⟩, ri1, by rw [hn, e3]⟩
  | ck i o =>
    simp only [Qq, Bool.and_eq_true] at hok
    have ht := ri.tells hok.1
    have e0:FW sm cf2 b (.ck i o) env t' h0 h1 n κ=QU o.g (BE sm env t') (fun e => TS o.dst fun p => AX (GA o.k cf2 (BE sm env t') h0 n Kh) fun v => BE sm env t' (.t p) fun x => BV x v e) (κ env t' h0 h1 n) := by cases o; rfl
    simp only [e0] at hg ⊢
    rw [TG ht.2, Hu ht.1 h2] at hg ⊢
    rcases Fl hg with hy | hn
    · rw [hy] at hg
      cases hd:o.dst with
      | none => rw [hd] at hg; exact hg.elim
      | some p =>
        have hkn:Ea sm dom p=true := by have := hok.2; rw [hd] at this; exact this
        rw [hd] at hg
        have e5:(TS (some p) fun p => AX (Hz o.k cf t h0 n Kh) fun v => BE sm env t' (.t p) fun x => BV x v (κ env t' h0 h1 n))=AX (Hz o.k cf t h0 n Kh) fun v => BV (Bx p t) v (κ env t' h0 h1 n) := by
          show AX _ (fun v => BE sm env t' (.t p) fun x => BV x v (κ env t' h0 h1 n))=_
          congr 1; funext v
          exact ri.tell hkn _
        rw [e5] at hg
        obtain ⟨v, h, n', e1, e2⟩ := Lv hg
        rw [e2] at hg
        obtain ⟨e3, e4⟩ := Eg hg
        exact ⟨_, env, t', ⟨rfl, .inl ⟨hy, p, h, n', hd, by show Hz o.k cf t h0 n Kh = .rv (Bx p t) h n'; rw [e3]; exact e1⟩⟩, ri, by rw [hy]; exact e5.trans (e2.trans e4)⟩
    · exact ⟨_, env, t', ⟨rfl, .inr hn⟩, ri, by rw [hn]⟩
  | no j =>
    have e0:FW sm cf2 b (.no j) env t' h0 h1 n κ=G9 (A8 (Ez b j) h0) (κ env t' h0 h1 n) := by
      show b.at j (fun r => Bz r h0 _)=_
      rw [K4.at_eq, BH]; rfl
    simp only [e0] at hg ⊢
    obtain ⟨h3, e3⟩ := KA hg
    exact ⟨_, env, t', ⟨rfl, h3⟩, ri, e3⟩
  | rn i j o =>
    have ht := ri.tells hok
    have e0:FW sm cf2 b (.rn i j o) env t' h0 h1 n κ=Lb o.g (BE sm env t') (fun κ => Zt (A8 (Ez b j) h1) fun ob => AX (GA o.k cf2 (BE sm env t') (Ac (Ez b j) AM (some ob)) n Kh) κ) (fun v => Du sm o.dst t' v fun t => κ (C6 o.dst v env) t h0 h1 n) := by
      have:∀ κ:V->R, (b.at j fun r => Bz r h1 fun x => Zt x fun ob => BQ r AM (some ob) fun hx => AX (GA o.k cf2 (BE sm env t') hx n Kh) κ)=Zt (A8 (Ez b j) h1) fun ob => AX (GA o.k cf2 (BE sm env t') (Ac (Ez b j) AM (some ob)) n Kh) κ := fun κ => by
        simp only [K4.at_eq, BH, BR, AR]; rfl
      cases o
      simp only [←this]
    simp only [e0] at hg ⊢
    simp only [Hu ht.1 h2] at hg ⊢
    rw [ML ht.2] at hg ⊢
    rcases Fl hg with hy | hn
    · rw [hy] at hg
      obtain ⟨ob, h3, e3⟩ := TP hg
      rw [e3] at hg
      obtain ⟨v, h, n', e1, e2⟩ := Lv hg
      obtain ⟨t1', e4, ri1⟩ := ri.put o.dst v (fun t => κ (C6 o.dst v env) t h0 h1 n)
      exact ⟨_, _, _, .inl ⟨hy, ob, v, h, n', h3, e1, rfl⟩, ri1, by rw [hy, e3, e2, e4]⟩
    · obtain ⟨t1', e3, ri1⟩ := ri.put o.dst Ar (fun t => κ (C6 o.dst Ar env) t h0 h1 n)
      exact ⟨_, _, _, .inr ⟨hn, rfl⟩, ri1, by rw [hn, e3]⟩
theorem J3 (h2:∀ f, cf2 (B2 f)=cf f) {b:K4}:∀ {l:List Item} {dom:List K2} {env:GM} {s:St} {t':S} {κ:GM->S->Heap->Heap->K4->R}, IW sm l dom=true->RI sm dom env s.t t'->(E5 sm cf2 b l env t' s.h0 s.h1 s.n κ).good →
    ∃ (st:Nat->St) (env1:GM) (t1':S), st 0=s∧(∀ i x, l[i]? = some x->IE cf b x (st i) (st (i+1)))∧RI sm (IP l dom) env1 (st l.length).t t1'∧E5 sm cf2 b l env t' s.h0 s.h1 s.n κ=κ env1 t1' (st l.length).h0 (st l.length).h1 (st l.length).n
  | [], dom, env, s, t', κ, hok, ri, hg => ⟨fun _ => s, env, t', rfl, fun i x hx => by simp at hx, ri, rfl⟩
  | x::l, dom, env, s, t', κ, hok, ri, hg => by
    simp only [IW, Bool.and_eq_true] at hok
    have e0:E5 sm cf2 b (x::l) env t' s.h0 s.h1 s.n κ=FW sm cf2 b x env t' s.h0 s.h1 s.n fun env t h0 h1 n => E5 sm cf2 b l env t h0 h1 n κ := rfl
    rw [e0] at hg
    obtain ⟨s', env1, t1', hs, ri1, e1⟩ := PB h2 hok.1 ri hg
    rw [e1] at hg
    obtain ⟨st, env2, t2', h1, h3, ri2, h4⟩ := J3 h2 hok.2 ri1 hg
    refine ⟨fun i => match i with | 0 => s | i+1 => st i, env2, t2', rfl, fun i y hy => ?_, ri2, ?_⟩
    · cases i with
      | zero => simp at hy; subst hy; show IE cf b x s (st 0); rw [h1]; exact hs
      | succ i => exact h3 i y (by simpa using hy)
    · rw [e0, e1, h4]; rfl
end
end Go.Ev

namespace Go.Ev
open Go.ChangeMaps (setBlock)
set_option linter.unusedVariables false
/-- All that it may come to is Ea, and meets a condition. -/
def R.sat (Φ:R->Prop):R->Prop
  | .fail _ => False
  | .both a b => a.sat Φ∧b.sat Φ
  | .ok e t h n => Φ (.ok e t h n)
  | .rv v h n => Φ (.rv v h n)
theorem R.sat_good {Φ:R->Prop} {r:R} (h:r.sat Φ):r.good := by cases r <;> first | exact h.elim | trivial
theorem R.sat_mono {Φ Ψ:R->Prop} (H:∀ r, Φ r->Ψ r):∀ {r:R}, r.sat Φ->r.sat Ψ
  | .fail _, h => h.elim
  | .both a b, h => ⟨R.sat_mono H h.1, R.sat_mono H h.2⟩
  | .ok _ _ _ _, h => H _ h
  | .rv _ _ _, h => H _ h
def Ws (q:K4) (h:Heap) (κ0:R) (κ:K4->Nat->List Nat->Nat->R):R :=
  Bz q h fun o => @Option.rec Ob (fun _ => R) (.fail "") (fun o => @Ob.rec (fun _ => R) (C8 "") (C8 "") κ κ0 (AB "") o) o
def Ub (v:V) (h:Heap) (n:K4) (κ:KV):R :=
  E6 v (Ds h n .it0 fun h' n' => κ (.ptr n 0) h' n') (fun p => RN p h fun _ _ c => Ds h n (.it p c [] c) fun h' n' => κ (.ptr n 0) h' n')
def G6 (s:Nat) (es:List (V×V)):List Nat->(V->V->R)->R :=
  @List.rec (V×V) (fun _ => List Nat->(V->V->R)->R) (AB "")
    (fun e _ ih bs κ => @List.rec Nat (fun _ => R) (.fail "") (fun b tl _ => br (Nat.beq b s) (@Prod.rec V V (fun _ => R) κ e) (ih tl κ)) bs) es
def PX (v:V) (h:Heap) (n:K4) (κ:KV):R :=
  Ki v fun q off => br (Nat.beq off 0) (Ws q h (.fail "") fun p since seen c => RN p h fun es bs clk => br (Nat.beq clk c)
    (@List.rec Nat (fun _ => R) (.fail "") (fun s _ _ => G6 s es bs fun k x => κ (.tup [k, x]) h n) seen) (.fail "")) (.fail "")
/-- Are all stamps elder? -/
def HU (since:Nat) (bs:List Nat):Bool := @List.rec Nat (fun _ => Bool) true (fun b _ ih => br (Nat.ble (Nat.succ b) since) ih false) bs
def G3 (b:Nat) (l:List Nat):Bool := @List.rec Nat (fun _ => Bool) false (fun x _ ih => br (Nat.beq x b) true ih) l
def OU (q p:K4) (since:Nat) (seen:List Nat) (clk:Nat) (h:Heap) (n:K4) (κ:KV) (e:V×V) (b:Nat):R :=
  BQ q h (some (.it p since (b::seen) clk)) fun h' => @Prod.rec V V (fun _ => R) (fun k x => κ (.tup [.bool true, k, x]) h' n) e
def FS (seen:List Nat) (leaf:V×V->Nat->R) (es:List (V×V)):List Nat->R->R :=
  @List.rec (V×V) (fun _ => List Nat->R->R) (fun _ acc => acc)
    (fun e _ ih bs acc => @List.rec Nat (fun _ => R) (.fail "") (fun b tl _ => br (G3 b seen) (ih tl acc) (ih tl (.both acc (leaf e b)))) bs) es
def Gw (seen:List Nat) (leaf:V×V->Nat->R) (es:List (V×V)):List Nat->R->R :=
  @List.rec (V×V) (fun _ => List Nat->R->R) (fun _ none => none)
    (fun e es ih bs none => @List.rec Nat (fun _ => R) (.fail "") (fun b tl _ => br (G3 b seen) (ih tl none) (FS seen leaf es tl (leaf e b))) bs) es
def TM (v:V) (h:Heap) (n:K4) (κ:KV):R :=
  Ki v fun q off => br (Nat.beq off 0) (Ws q h (κ (.tup [.bool false]) h n) fun p since seen c => RN p h fun es bs clk => br (HU since bs) (br (Nat.ble since c)
    (Gw seen (OU q p since seen clk h n κ) es bs (κ (.tup [.bool false]) h n)) (.fail "")) (.fail "")) (.fail "")
section
variable {P:Program} {ρ:Env} {B N:Nat} {o:Oper} {t:Regs} {h:Heap} {n:K4}
theorem OG {q:K4} {κ0:R} {κ:K4->Nat->List Nat->Nat->R} (hg:(Ws q h κ0 κ).good) :
    (A8 q h=some .it0∧Ws q h κ0 κ=κ0) ∨ ∃ p s l c, A8 q h=some (.it p s l c)∧Ws q h κ0 κ=κ p s l c := by
  have e:Ws q h κ0 κ=@Option.rec Ob (fun _ => R) (.fail "") (fun o => @Ob.rec (fun _ => R) (C8 "") (C8 "") κ κ0 (AB "") o) (A8 q h) := BH _ _ _
  rw [e] at hg
  cases hx:A8 q h with
  | none => rw [hx] at hg; exact hg.elim
  | some ob =>
    rw [hx] at hg e
    cases ob with
    | c _ _ _ => exact hg.elim
    | m _ _ _ => exact hg.elim
    | it p s l c => exact .inr ⟨p, s, l, c, rfl, e⟩
    | it0 => exact .inl ⟨rfl, e⟩
    | lp _ _ => exact hg.elim
/-- One step of a range. -/
def Uw (P:Program) (ρ:Env) (B N:Nat) (o:Oper) (t:Regs) (h:Heap) (n:K4) (f:KV->R):Prop :=
  ∀ (κ:KV) (Φ:R->Prop), (f κ).sat Φ->∀ (φ:AS) (a:Act) (w:World), TR ρ N φ t a->Gam ρ B h n φ w->∀ (K:Act->World->Prop) (Q:Exit->Act->World->Prop),
    (∀ v h1 n1, (κ v h1 n1).sat Φ->∀ φ' x w', Fr h h1 φ φ' n n1 w w'->Gam ρ B h1 n1 φ' w'->Av ρ φ' v x->K (a.put o.dst x) w')->o.wp P a w K Q
theorem CU.sp {f:KV->R} (H:CU P ρ B N o f t h n):Uw P ρ B N o t h n f := fun κ Φ hs φ a w hT g K Q hK => by
  obtain ⟨v, h1, n1, e, st⟩ := H κ (R.sat_good hs)
  rw [e] at hs
  exact st φ a w hT g K Q fun φ' x w' f1 g1 r1 => hK v h1 n1 hs φ' x w' f1 g1 r1
theorem T0 {ty kt e:TypeId} {x:Operand} {x':Opd} (ho:o.op = .range ty x) (hx:AG N x=some x') (ht:P.underlying ty=some (.map kt e)):CU P ρ B N o (Ub (ev x' t) h n) t h n := by
  intro κ hg
  unfold Ub at hg ⊢
  rw [Ht, F8] at hg ⊢
  rcases DK hg with ⟨hv, e1⟩ | ⟨p, hv, e1⟩
  · rw [e1] at hg
    obtain ⟨n', hn, e2⟩ := BG hg
    refine ⟨_, _, _, e1.trans e2, .value fun φ a w hT g => ?_⟩
    have g1 := Ae hx hT
    rw [hv] at g1
    have gx := C9 g1
    refine ⟨_, .pointer (some ⟨w.heap.size, 0, none⟩), w.alloc (.mapIter none 0 #[] 0), ?_, Fr.alloc g.at_n (by omega) (Nat.le_refl _) (by omega) _ _ 0, g.alloc g.at_n (by omega) (by omega) .it0 rfl _ 0 fun φ' hle w' hw' => ⟨rfl, hw'⟩, Dk⟩
    simp [execOp, ho, gx, Ci, Instr.range, run_underlying ht, run_newObj]
  · rw [e1] at hg
    obtain ⟨es, bs, c, hpm, e2⟩ := EH hg
    rw [e2] at hg
    obtain ⟨n', hn, e3⟩ := BG hg
    refine ⟨_, _, _, e1.trans (e2.trans e3), .value fun φ a w hT g => ?_⟩
    have g1 := Ae hx hT
    rw [hv] at g1
    obtain ⟨b, s, tot, hφ, gx⟩ := Fw g1
    obtain ⟨ents, k1, k2, k3⟩ := g.obj p _ b s tot hpm hφ
    have hgo:(getObj b).run P w = .ok (.map ents c) w := by simp [getObj, Sem.run, k1]
    refine ⟨_, .pointer (some ⟨w.heap.size, 0, none⟩), w.alloc (.mapIter (some b) c #[] c), ?_, Fr.alloc g.at_n (by omega) (Nat.le_refl _) (by omega) _ _ 0, g.alloc g.at_n (by omega) (by omega) (.it p c [] c) rfl _ 0 fun φ' hle w' hw' => ⟨b, s, tot, hle _ _ hφ, rfl, hw'⟩, Dk⟩
    simp only [execOp, ho, gx, Instr.range, Sem.run_bind, run_underlying ht, Result.andThen_ok, hgo]
    simp [run_newObj]
theorem Kz {s:Nat}:∀ {es:List (V×V)} {bs:List Nat} {κ:V->V->R}, (G6 s es bs κ).good->∃ (i:Nat) (e:V×V), es[i]? = some e∧bs[i]? = some s∧(∀ j, j<i->bs[j]? ≠ some s)∧G6 s es bs κ=κ e.1 e.2
  | [], bs, κ, h => h.elim
  | (k, x)::es, [], κ, h => h.elim
  | (k, x)::es, b::bs, κ, h => by
    have h:R.good (br (Nat.beq b s) (κ k x) (G6 s es bs κ)) := h
    cases hb:Nat.beq b s with
    | true =>
      refine ⟨0, (k, x), rfl, by rw [Nat.eq_of_beq_eq_true hb]; rfl, fun j hj => by omega, ?_⟩
      show br (Nat.beq b s) (κ k x) (G6 s es bs κ)=_
      rw [hb]; rfl
    | false =>
      rw [hb] at h
      obtain ⟨i, e, h1, h2, h3, h4⟩ := Kz (show R.good (G6 s es bs κ) from h)
      refine ⟨i+1, e, by simpa using h1, by simpa using h2, fun j hj => ?_, ?_⟩
      · cases j with
        | zero => intro e; simp at e; subst e; simp at hb
        | succ j => simpa using h3 j (by omega)
      · show br (Nat.beq b s) (κ k x) (G6 s es bs κ)=_
        rw [hb]; exact h4
theorem Xf {l:List MapEntry} {s:Nat}:∀ {i:Nat} {m:MapEntry}, l[i]? = some m->m.born=s->(∀ j, j<i->(l.map (·.born))[j]? ≠ some s)->l.find? (·.born == s)=some m := by
  induction l with
  | nil => intro i m h; simp at h
  | cons x l ih =>
    intro i m h hm hj
    cases i with
    | zero => simp at h; subst h; simp [hm]
    | succ i =>
      have h0 := hj 0 (by omega)
      simp at h0
      rw [List.find?_cons]
      have:(x.born == s)=false := by simpa using h0
      rw [this]
      exact ih (by simpa using h) hm fun j hj' => by have := hj (j+1) (by omega); simpa using this
theorem Tr {x:Operand} {x':Opd} (ho:o.op = .entry x) (hx:AG N x=some x'):CU P ρ B N o (PX (ev x' t) h n) t h n := by
  intro κ hg
  unfold PX at hg ⊢
  rw [F8] at hg ⊢
  obtain ⟨q, off, hv, e1⟩ := DI hg
  rw [e1] at hg
  obtain ⟨h0, e2⟩ := Af hg
  rw [e2] at hg
  have h0 := Nat.eq_of_beq_eq_true h0
  subst h0
  rcases OG hg with ⟨hq, e3⟩ | ⟨p, since, seen, c, hq, e3⟩
  · rw [e3] at hg; exact hg.elim
  rw [e3] at hg
  obtain ⟨es, bs, clk, hp, e4⟩ := EH hg
  rw [e4] at hg
  obtain ⟨h5, e5⟩ := Af hg
  rw [e5] at hg
  have h5 := Nat.eq_of_beq_eq_true h5
  subst h5
  cases seen with
  | nil => exact hg.elim
  | cons s seen =>
    obtain ⟨i, ee, k1, k2, k3, e6⟩ := Kz (show R.good (G6 s es bs fun k x => κ (.tup [k, x]) h n) from hg)
    refine ⟨_, h, n, e1.trans (e2.trans (e3.trans (e4.trans (e5.trans e6)))), .pure fun φ a w hT g => ?_⟩
    have g1 := Ae hx hT
    rw [hv] at g1
    obtain ⟨b, sq, tot, hφ, gx⟩ := D7 g1
    have := g.obj q _ b sq tot hq hφ
    obtain ⟨bm, sm, tm, hφm, hs0, hit⟩ := this
    subst hs0
    obtain ⟨ents, m1, m2, m3⟩ := g.obj p _ bm sm tm hp hφm
    obtain ⟨mm, hmm, hk, hvv⟩ := KD m2 k1
    have hborn:mm.born=s := by
      have:(ents.toList.map (·.born))[i]? = some s := by rw [m3]; exact k2
      rw [List.getElem?_map, hmm] at this
      simpa using this
    have hf:ents.find? (·.born == s)=some mm := by
      rw [←Array.find?_toList]
      exact Xf hmm hborn fun j hj => by rw [m3]; exact k3 j hj
    have hgo1:(getObj b).run P w = .ok (.mapIter (some bm) since (s::seen).reverse.toArray clk) w := by simp [getObj, Sem.run, hit]
    have hgo2:(getObj bm).run P w = .ok (.map ents clk) w := by simp [getObj, Sem.run, m1]
    have hback:(s::seen).reverse.toArray.back? = some s := by simp
    refine ⟨.tuple #[mm.key, mm.val], ?_, by simp only [Av, BP]; exact ⟨_, rfl, _, _, rfl, hk, _, _, rfl, hvv, rfl⟩⟩
    simp only [execOp, ho, gx, Instr.entry, Nat.zero_add, Sem.run_bind, hgo1, Result.andThen_ok, hback, hgo2]
    simp [hf]
theorem Rc (b:Nat):∀ l:List Nat, G3 b l=l.contains b
  | [] => rfl
  | x::l => by
    show br (Nat.beq x b) true (G3 b l)=_
    rw [Rc b l, List.contains_cons]
    cases hb:Nat.beq x b with
    | true => rw [Nat.eq_of_beq_eq_true hb]; simp [br]
    | false =>
      have:(b == x)=false := by
        cases h:b == x with
        | false => rfl
        | true => have := eq_of_beq h; subst this; rw [Nat.beq_refl] at hb; cases hb
      rw [this]; rfl
theorem MI {since:Nat}:∀ {bs:List Nat}, HU since bs=true->∀ b∈bs, b<since
  | [], _, b, hb => by simp at hb
  | x::bs, h, b, hb => by
    have h:br (Nat.ble (Nat.succ x) since) (HU since bs) false=true := h
    cases hx:Nat.ble (Nat.succ x) since with
    | false => rw [hx] at h; cases h
    | true =>
      rw [hx] at h
      rcases List.mem_cons.1 hb with e | hb
      · subst e; exact Ab.1 hx
      · exact MI (show HU since bs=true from h) b hb
section
variable {seen:List Nat} {leaf:V×V->Nat->R} {Φ:R->Prop}
theorem I3:∀ {es:List (V×V)} {bs:List Nat} {acc:R}, (FS seen leaf es bs acc).sat Φ->acc.sat Φ ∧ ∀ (i:Nat) (e:V×V) (b:Nat), es[i]? = some e->bs[i]? = some b->G3 b seen=false->(leaf e b).sat Φ
  | [], bs, acc, h => ⟨h, fun i e b he => by simp at he⟩
  | e0::es, [], acc, h => h.elim
  | e0::es, b0::bs, acc, h => by
    have h:(br (G3 b0 seen) (FS seen leaf es bs acc) (FS seen leaf es bs (.both acc (leaf e0 b0)))).sat Φ := h
    cases hm:G3 b0 seen with
    | true =>
      rw [hm] at h
      obtain ⟨h1, h2⟩ := I3 (show (FS seen leaf es bs acc).sat Φ from h)
      refine ⟨h1, fun i e b he hb hn => ?_⟩
      cases i with
      | zero => simp at he hb; subst he hb; rw [hm] at hn; cases hn
      | succ i => exact h2 i e b (by simpa using he) (by simpa using hb) hn
    | false =>
      rw [hm] at h
      obtain ⟨h1, h2⟩ := I3 (show (FS seen leaf es bs (.both acc (leaf e0 b0))).sat Φ from h)
      refine ⟨h1.1, fun i e b he hb hn => ?_⟩
      cases i with
      | zero => simp at he hb; subst he hb; exact h1.2
      | succ i => exact h2 i e b (by simpa using he) (by simpa using hb) hn
theorem Lf:∀ {es:List (V×V)} {bs:List Nat} {none:R}, (Gw seen leaf es bs none).sat Φ->((∀ b∈bs, G3 b seen=true)->es.length=bs.length->none.sat Φ) ∧ ∀ (i:Nat) (e:V×V) (b:Nat), es[i]? = some e->bs[i]? = some b->G3 b seen=false->(leaf e b).sat Φ
  | [], bs, acc, h => ⟨fun _ _ => h, fun i e b he => by simp at he⟩
  | e0::es, [], acc, h => h.elim
  | e0::es, b0::bs, acc, h => by
    have h:(br (G3 b0 seen) (Gw seen leaf es bs acc) (FS seen leaf es bs (leaf e0 b0))).sat Φ := h
    cases hm:G3 b0 seen with
    | true =>
      rw [hm] at h
      obtain ⟨h1, h2⟩ := Lf (show (Gw seen leaf es bs acc).sat Φ from h)
      refine ⟨fun ha hl => h1 (fun b hb => ha b (List.mem_cons_of_mem _ hb)) (by simpa using hl), fun i e b he hb hn => ?_⟩
      cases i with
      | zero => simp at he hb; subst he hb; rw [hm] at hn; cases hn
      | succ i => exact h2 i e b (by simpa using he) (by simpa using hb) hn
    | false =>
      rw [hm] at h
      obtain ⟨h1, h2⟩ := I3 (show (FS seen leaf es bs (leaf e0 b0)).sat Φ from h)
      refine ⟨fun ha _ => absurd (ha b0 (List.mem_cons_self ..)) (by rw [hm]; simp), fun i e b he hb hn => ?_⟩
      cases i with
      | zero => simp at he hb; subst he hb; exact h1
      | succ i => exact h2 i e b (by simpa using he) (by simpa using hb) hn
end
theorem YR {x:Operand} {x':Opd} (ho:o.op = .next x false) (hx:AG N x=some x'):Uw P ρ B N o t h n (TM (ev x' t) h n) := by
  intro κ Φ hs φ a w hT g K Q hK
  unfold TM at hs
  rw [F8] at hs
  obtain ⟨q, off, hv, e1⟩ := DI (R.sat_good hs)
  rw [e1] at hs
  obtain ⟨h0, e2⟩ := Af (R.sat_good hs)
  rw [e2] at hs
  have h0 := Nat.eq_of_beq_eq_true h0
  subst h0
  have g1 := Ae hx hT
  rw [hv] at g1
  obtain ⟨b, sq, tot, hφ, gx⟩ := D7 g1
  rcases OG (R.sat_good hs) with ⟨hq, e3⟩ | ⟨p, since, seen, c, hq, e3⟩
  · rw [e3] at hs
    obtain ⟨hs0, hit⟩ := g.obj q _ b sq tot hq hφ
    subst hs0
    have hgo1:(getObj b).run P w = .ok (.mapIter none 0 #[] 0) w := by simp [getObj, Sem.run, hit]
    have hrun:(execOp a.eval o).run P w = .ok (.value (.tuple #[.bool false])) w := by
      simp only [execOp, ho, gx, Instr.next, Nat.zero_add, Sem.run_bind, hgo1, Result.andThen_ok]
      simp
    unfold Oper.wp
    rw [hrun]
    exact hK _ _ _ hs φ _ w (Fr.refl h φ n w) g (by simp only [Av, BP]; exact ⟨_, rfl, _, _, rfl, rfl, rfl⟩)
  · rw [e3] at hs
    obtain ⟨es, bs, clk, hp, e4⟩ := EH (R.sat_good hs)
    rw [e4] at hs
    obtain ⟨h5, e5⟩ := Af (R.sat_good hs)
    rw [e5] at hs
    obtain ⟨h6, e6⟩ := Af (R.sat_good hs)
    rw [e6] at hs
    obtain ⟨c1, c2⟩ := Lf hs
    obtain ⟨bm, sm, tm, hφm, hs0, hit⟩ := g.obj q _ b sq tot hq hφ
    subst hs0
    obtain ⟨ents, m1, m2, m3⟩ := g.obj p _ bm sm tm hp hφm
    have hold:∀ x∈ents.toList, x.born<since := fun x hx => MI h5 _ (by rw [←m3]; exact List.mem_map.2 ⟨x, hx, rfl⟩)
    have hlen:es.length=bs.length := by rw [←FI m2, ←m3, List.length_map]
    have hcon:∀ k:Nat, seen.reverse.toArray.contains k=G3 k seen := fun k => by rw [Rc]; simp
    rcases run_next_at (P := P) w o.type b bm since c seen.reverse.toArray ents clk hit m1 hold (Ab.1 h6) with ⟨hz, hrun⟩ | ⟨e, he, w1, hal, hrun⟩
    · have hall:∀ k∈bs, G3 k seen=true := fun k hk => by
        rw [←m3] at hk
        obtain ⟨x, hx, rfl⟩ := List.mem_map.1 hk
        cases hm:G3 x.born seen with
        | true => rfl
        | false =>
          have:x∈leftOf ents seen.reverse.toArray := by
            unfold leftOf
            rw [Array.mem_filter]
            exact ⟨by simpa using hx, by rw [hcon, hm]; rfl⟩
          rw [Array.eq_empty_of_size_eq_zero hz] at this
          simp at this
      have hx:(execOp a.eval o).run P w = .ok (.value (.tuple #[.bool false])) w := by
        simp only [execOp, ho, gx, Nat.zero_add, Sem.run_bind, hrun, Result.andThen_ok]
        simp
      unfold Oper.wp
      rw [hx]
      exact hK _ _ _ (c1 hall hlen) φ _ w (Fr.refl h φ n w) g (by simp only [Av, BP]; exact ⟨_, rfl, _, _, rfl, rfl, rfl⟩)
    · have he':e∈ents.toList∧G3 e.born seen=false := by
        unfold leftOf at he
        have he := Array.mem_filter.1 (Array.mem_toList_iff.1 he)
        refine ⟨by simpa using he.1, ?_⟩
        have := he.2
        rw [hcon] at this
        simpa using this
      obtain ⟨i, hi⟩ := List.getElem?_of_mem he'.1
      have hil:i<es.length := by rw [←FI m2]; exact (List.getElem?_eq_some_iff.1 hi).1
      obtain ⟨mm, hmm, hk1, hk2⟩ := KD m2 (List.getElem?_eq_getElem hil)
      rw [hi] at hmm; cases hmm
      have hb:bs[i]? = some e.born := by rw [←m3, List.getElem?_map, hi]; rfl
      have leaf := c2 i _ _ (List.getElem?_eq_getElem hil) hb he'.2
      unfold OU at leaf
      rw [BR, AR] at leaf
      have g1:Gam ρ B h n φ w1 := by
        rcases hal with e | e
        · rw [e]; exact g
        · rw [e]; exact g.drew
      have f1:Fr h h φ φ n n w w1 := by
        rcases hal with e | e
        · rw [e]; exact Fr.refl h φ n _
        · rw [e]; exact Fr.drew
      have hw:setBlock w1 b (.mapIter (some bm) since (seen.reverse.toArray.push e.born) clk)=Da w1 b (.mapIter (some bm) since (e.born::seen).reverse.toArray clk) := by
        have:seen.reverse.toArray.push e.born=(e.born::seen).reverse.toArray := by simp
        rw [this]; rfl
      rw [hw] at hrun
      have hbl := (g1.blk q b 0 tot hφ).2
      have g2:Gam ρ B (Ac q h (some (.it p since (e.born::seen) clk))) n φ (Da w1 b (.mapIter (some bm) since (e.born::seen).reverse.toArray clk)) :=
        g1.write (o := .it p since seen c) (o' := .it p since (e.born::seen) clk) hq hφ rfl rfl ⟨bm, sm, tm, hφm, rfl, DP hbl⟩
      have f2:Fr h (Ac q h (some (.it p since (e.born::seen) clk))) φ φ n n w1 (Da w1 b (.mapIter (some bm) since (e.born::seen).reverse.toArray clk)) :=
        Fr.write (o := .it p since seen c) hq hφ
      have hx:(execOp a.eval o).run P w = .ok (.value (.tuple #[.bool true, e.key, e.val])) (Da w1 b (.mapIter (some bm) since (e.born::seen).reverse.toArray clk)) := by
        simp only [execOp, ho, gx, Nat.zero_add, Sem.run_bind, hrun, Result.andThen_ok]
        simp
      unfold Oper.wp
      rw [hx]
      exact hK _ _ _ leaf φ _ _ (Fr.trans f1 f2) g2 (by simp only [Av, BP]; exact ⟨_, rfl, _, _, rfl, rfl, _, _, rfl, hk1, _, _, rfl, hk2, rfl⟩)
end
end Go.Ev

namespace Go.Ev
set_option linter.unusedVariables false
def D0 (r:R) (κ:KV):R := @R.rec (fun _ => R) (Ff "") (fun v h n => κ v h n) (fun w => .fail w) (fun _ _ a b => .both a b) r
/-- A round: its arguments are the box and what has come; it says true. -/
def YS (cf:E8) (p:K4) (l:List V) (h:Heap) (n:K4) (κ:KV):R :=
  Bz p h fun o => @Option.rec Ob (fun _ => R) (.fail "") (fun o => @Ob.rec (fun _ => R) (C8 "") (C8 "") (Ff "") (.fail "")
    (fun f box => @List.rec V (fun _ => R) (.fail "") (fun x l _ => @List.rec V (fun _ => R)
      (BQ p h none fun h => D0 (cf (B2 f) [.oth .no, .ptr box 0, x] h n) fun v h n => BQ p h (some (.lp f box)) fun h => κ v h n) (C8 "") l) l) o) o
def JY (cf:E8) (v:V) (l:List V) (h:Heap) (n:K4) (κ:KV):R :=
  @V.rec (fun _ => R) (fun _ => Unit) (AB "") (AT "") (AB "") (DZ "") (AB "") (AB "") (AT "") (AT "")
    (fun f caps _ => Ep l caps fun l => D0 (cf (B2 f) l h n) κ) (AB "")
    (fun o => @Ot.rec (fun _ => R) (.fail "") (AT "") (fun p => YS cf p l h n κ) (.fail "") (C8 "") (AB "") (.fail "") (AB "") (Ff "") (Ff "") (C8 "") (AB "") (AB "") (C8 "") (AT "") o) () (fun _ _ _ _ => ()) v
abbrev YQ (cf:E8) (sp:Sp) (ε:IU) (h:Heap) (n:K4) (κ:KV):R :=
  @Sp.rec (fun _ => R) (fun x => ε x fun v => Ub v h n κ) (fun x => ε x fun v => TM v h n κ) (fun x => ε x fun v => PX v h n κ)
    (fun f l => Gf ε l fun l => D0 (cf (B2 f) l h n) κ) (fun x l => ε x fun v => Gf ε l fun l => JY cf v l h n κ) sp
section
variable {P:Program} {ρ:Env} {B N:Nat}
def Nq:Option Nat->Fence
  | none => Fence.wide
  | some l => Fence.wide.inRound l
theorem U6 (l:Option Nat) (f:FuncId):(Nq l).fn f := by cases l <;> trivial
theorem SY (l:Option Nat):(Nq l).depth=none := by cases l <;> rfl
theorem PG {l:Option Nat} {n:Nat} {f:FuncId} {args:Array Value} {w:World} {R:Ending->World->Prop} (h:Calls P f args w R):CallsIn (Nq l) n P f args w R := by
  cases l with
  | none => exact callsIn_wide.2 h
  | some l => exact (show CallsIn Fence.wide n P f args w R from callsIn_wide.2 h)
theorem X3 {l:Option Nat} {n:Nat} {o:Oper} {a:Act} {K K':Act->World->Prop} {Q:Exit->Act->World->Prop} (hK:∀ a w, K a w->K' a w):∀ {r:Result Next}, o.upon P a K Q r->o.uponIn (Nq l) n P a K' Q r := by
  have hd:(Nq l).depth.isSome=true->1≤n := fun h => by rw [SY] at h; cases h
  intro r h
  cases r with
  | ok x w =>
    cases x with
    | value v => exact hK _ _ h
    | skip => exact hK _ _ h
    | defer d => exact hK _ _ h
    | enter f args =>
      refine ⟨hd, (PG (show Calls P f args w _ from h)).mono fun e w' he => ?_⟩
      cases e with
      | returned v => exact hK _ _ he
      | panicked c => exact he
      | outgrown => exact he
    | row row args =>
      refine ⟨hd, fun c cs _ => ?_⟩
      obtain ⟨v, w', hr, hs⟩ := (show Rows P row args w _ from h) c cs
      refine ⟨v, w', hK _ _ hr, ?_⟩
      cases l with
      | none => exact stepsIn_wide.2 hs
      | some l => exact (show StepsIn (Machine.fenced P Fence.wide) P _ _ from stepsIn_wide.2 hs)
    | _ => exact h.elim
  | halt x w => cases x <;> first | exact h | exact h.elim
theorem Rh {l:Option Nat} {n:Nat} {o:Oper} {a:Act} {w:World} {K K':Act->World->Prop} {Q:Exit->Act->World->Prop} (hd:l=none ∨ ∀ c, o.op ≠ .defer c) (hK:∀ a w, K a w->K' a w) (h:o.wp P a w K Q):o.wpIn (Nq l) n P a w K' Q := by
  refine ⟨fun f _ => U6 l f, ?_⟩
  have e:o.semAt (Nq l).round a.eval=execOp a.eval o := by
    cases l with
    | none => rfl
    | some l =>
      rcases hd with h | h
      · cases h
      · exact Oper.semAt_eq _ _ _ h
  rw [e]
  exact X3 hK h
theorem En {l:Option Nat} {n:Nat} {ops:Array Oper} {Q:Exit->Act->World->Prop} {r:List Oper}:∀ {os:List Oper} {a:Act} {w:World}, (l=none ∨ ∀ o∈os, ∀ c, o.op ≠ .defer c) →
    FL P ops Q (wpListIn (Nq l) n P ops Q r) os a w->wpListIn (Nq l) n P ops Q (os++r) a w
  | [], _, _, _, h => h
  | o::os, a, w, hd, h => by
    show wpListIn (Nq l) n P ops Q (o::(os++r)) a w
    simp only [wpListIn]
    unfold FL at h
    have hd1:l=none ∨ ∀ c, o.op ≠ .defer c := hd.imp id fun h => h o (List.mem_cons_self ..)
    have hd2:l=none ∨ ∀ o∈os, ∀ c, o.op ≠ .defer c := hd.imp id fun h o ho => h o (List.mem_cons_of_mem _ ho)
    split
    · rw [if_pos (by assumption)] at h
      exact Rh hd1 (fun a w h => En hd2 h) h
    · rw [if_neg (by assumption)] at h
      exact ⟨fun f _ => U6 l f, En hd2 h⟩
/-- A call's ways. -/
def IJ (P:Program) (ρ:Env) (B:Nat) (cf:CF):Prop :=
  ∀ f args h n (Φ:R->Prop), (cf f args h n).sat Φ->∀ φ w (xs:Array Value), Gam ρ B h n φ w->BP ρ φ args xs.toList →
    Ow P f xs w fun x w' => ∃ v h1 n1 φ', Φ (.rv v h1 n1)∧Fr h h1 φ φ' n n1 w w'∧Gam ρ B h1 n1 φ' w'∧Av ρ φ' v x
theorem IJ.ok {cf:CF} (H:IJ P ρ B cf):Ei P ρ B cf := fun f args h n v h1 n1 hr φ w xs g hx o a K Q hK => by
  refine H f args h n (fun r => r = .rv v h1 n1) (by rw [hr]; exact rfl) φ w xs g hx o a K Q fun x w' ⟨v', h', n', φ', e, f1, g1, r1⟩ => hK x w' ?_
  cases e
  exact ⟨φ', f1, g1, r1⟩
/-- The record of a loop over a function, between two rounds. -/
def FN (A:ApC) (f:FuncId) (tmps:Array Value) (D:Nat):Loop := { state := .ready, pending := none, fn := f, tmps, params := #[A.par], assign := A.asg, body := A.bod, defers := D }
/-- A round is sound: its record is none of the objects. -/
def Ie (P:Program) (ρ:Env) (B:Nat) (cf:CF):Prop :=
  ∀ f A fn, ρ.ap f=some A->∀ box x h n (Φ:R->Prop), (cf f [.oth .no, .ptr box 0, x] h n).sat Φ->∀ φ w (tmps:Array Value) X l D, Gam ρ B h n φ w->w.heap[l]? = some (.loop (FN A fn tmps D)) →
    (∀ q s tot, φ q=some (l, s, tot)->A8 q h=none)->tmps.size=A.ntm->Av ρ φ (.ptr box 0) (tmps.getD A.box undef)->Av ρ φ x X →
    RoundIn Fence.wide 0 P l fn (tmps.setIfInBounds A.par X) A.asg A.bod w fun e w' => e = .returned (.bool true) ∧
      ∃ v h1 n1 φ', v = .bool true∧Φ (.rv v h1 n1)∧Fr h h1 φ φ' n n1 w w'∧Gam ρ B h1 n1 φ' w'
/-- One step, inside the fence. -/
def YO (P:Program) (ρ:Env) (B N:Nat) (o:Oper) (t:Regs) (h:Heap) (n:K4) (f:KV->R):Prop :=
  ∀ (κ:KV) (Φ:R->Prop), (f κ).sat Φ->∀ (φ:AS) (a:Act) (w:World), TR ρ N φ t a->Gam ρ B h n φ w->∀ (K:Act->World->Prop) (Q:Exit->Act->World->Prop),
    (∀ v h1 n1, (κ v h1 n1).sat Φ->∀ φ' x w', Fr h h1 φ φ' n n1 w w'->Gam ρ B h1 n1 φ' w'->Av ρ φ' v x->K (a.put o.dst x) w')->o.wpIn (Nq none) 0 P a w K Q
section
variable {o:Oper} {t:Regs} {h:Heap} {n:K4} {cf:CF} {cf2:E8}
theorem Uw.in_ {f:KV->R} (H:Uw P ρ B N o t h n f):YO P ρ B N o t h n f := fun κ Φ hs φ a w hT g K Q hK => Rh (.inl rfl) (fun _ _ h => h) (H κ Φ hs φ a w hT g K Q hK)
/-- What is asked of a call's ways. -/
def XF (κ:KV) (Φ:R->Prop):R->Prop
  | .rv v h n => (κ v h n).sat Φ
  | _ => False
theorem Ek {κ:KV} {Φ:R->Prop}:∀ {r:R}, (D0 r κ).sat Φ->r.sat (XF κ Φ)
  | .ok _ _ _ _, h => h.elim
  | .rv _ _ _, h => h
  | .fail _, h => h.elim
  | .both a b, h => ⟨Ek (r := a) h.1, Ek (r := b) h.2⟩
theorem Zi {ct:Call} {f:FuncId} {args:List Opd} (hcf:IJ P ρ B cf) (h2:∀ f, cf2 (B2 f)=cf f) (ho:o.op = .call ct) (hc:ct.callee = .value (.func f)) (ha:BO N ct.args.toList=some args) :
    Uw P ρ B N o t h n fun κ => D0 (cf2 (B2 f) (args.map (ev · t)) h n) κ := by
  intro κ Φ hs φ a w hT g K Q hK
  have hs := Ek hs
  rw [h2] at hs
  have := hcf f _ h n _ hs φ w (ct.args.map a.eval) g (by rw [Array.toList_map]; exact F5 ha hT) o a K Q (fun x w' ⟨v, h1, n1, φ', hΦ, f1, g1, r1⟩ => hK v h1 n1 hΦ φ' x w' f1 g1 r1)
  unfold Oper.wp
  have e3:(execOp a.eval o).run P w=(callFunc f (ct.args.map a.eval)).run P w := by
    simp [execOp, ho, resolve, hc, Act.eval, Deferred.ofValue, invoke]
  rw [e3]; exact this
/-- What was put aside is laid back. -/
theorem Gam.back {h1:Heap} {n1 p:K4} {φ φ1:AS} {w w1:World} {ob:Ob} {b s tot:Nat} (g:Gam ρ B h n φ w) (hp:A8 p h=some ob) (hφ:φ p=some (b, s, tot)) (hsup:JU ob=false) (hprev:Cc ob=none)
    (f1:Fr (Ac p h none) h1 φ φ1 n n1 w w1) (g1:Gam ρ B h1 n1 φ1 w1) (hw:w1.heap[b]? = w.heap[b]?) :
    Gam ρ B (Ac p h1 (some ob)) n1 φ1 w1∧Fr h (Ac p h1 (some ob)) φ φ1 n n1 w w1 := by
  have out:∀ q o' s' tot', p≠q->A8 q h1=some o'->φ1 q=some (b, s', tot')->False := fun q o' s' tot' hne hq hx => by
    have key:∀ r o2 sr tr, p≠r->A8 r h=some o2->φ r=some (b, sr, tr)->False := fun r o2 sr tr hpr hr hxr => by
      rcases g.sep p r ob o2 b s tot sr tr hpr hp hr hφ hxr with e | e
      · rw [hprev] at e; cases e
      · have := g.sup r p o2 ob b sr tr s tot hr e hp hxr hφ
        rw [hsup] at this; cases this
    rcases f1.fresh q b s' tot' hx with e | e | ⟨r, sr, tr, hr, hne'⟩
    · cases hq':A8 q h with
      | none =>
        have := f1.dm q (by rw [e]; simp) (by rw [A6 _ _ hne]; exact hq')
        rw [this] at hq; cases hq
      | some o2 => exact key q o2 s' tot' hne hq' e
    · have := (g.blk p b s tot hφ).2; omega
    · by_cases e:p=r
      · subst e; exact hne' (A7 _ _ _)
      · rw [A6 _ _ e] at hne'
        cases hr':A8 r h with
        | none => exact hne' hr'
        | some o2 => exact key r o2 sr tr e hr' hr
  have hφ1 := f1.ext _ _ hφ
  refine ⟨⟨g1.base, g1.dom, g1.blk, fun q o' b' s' tot' hq hx => ?_, fun q r o1 o2 b' s1 t1 s2 t2 hne hq hr hx hy => ?_, fun q r o1 o2 b' s1 t1 s2 t2 hq hpr hr hx hy => ?_, g1.glob⟩,
    ⟨f1.ext, f1.new, f1.nn, f1.os, f1.tape, f1.out, f1.size, fun b' hb hn => f1.old b' hb fun q s' tot' hx => ?_, fun q b' s' tot' hx => ?_, fun q hq hn => ?_⟩⟩
  · rcases BS hq with ⟨rfl, e⟩ | ⟨hne, hq⟩
    · cases e
      rw [hφ1] at hx; cases hx
      exact Cr hw (Eo f1.ext (g.obj p _ _ _ _ hp hφ))
    · exact g1.obj q o' b' s' tot' hq hx
  · rcases BS hq with ⟨rfl, e⟩ | ⟨hq', hq⟩
    · rw [hφ1] at hx; cases hx
      rcases BS hr with ⟨e', _⟩ | ⟨hr', hr⟩
      · exact absurd e' hne
      · exact (out r o2 s2 t2 hr' hr hy).elim
    · rcases BS hr with ⟨rfl, e⟩ | ⟨hr', hr⟩
      · rw [hφ1] at hy; cases hy
        exact (out q o1 s1 t1 hq' hq hx).elim
      · exact g1.sep q r o1 o2 b' s1 t1 s2 t2 hne hq hr hx hy
  · rcases BS hq with ⟨rfl, e⟩ | ⟨hq', hq⟩
    · cases e; rw [hprev] at hpr; cases hpr
    · rcases BS hr with ⟨rfl, e⟩ | ⟨hr', hr⟩
      · rw [hφ1] at hy; cases hy
        exact (out q o1 s1 t1 hq' hq hx).elim
      · exact g1.sup q r o1 o2 b' s1 t1 s2 t2 hq hpr hr hx hy
  · by_cases e:p=q
    · subst e; exact A7 _ _ _
    · rw [A6 _ _ e]; exact hn q s' tot' hx
  · rcases f1.fresh q b' s' tot' hx with e | e | ⟨r, sr, tr, hr, hne'⟩
    · exact .inl e
    · exact .inr (.inl e)
    · refine .inr (.inr ⟨r, sr, tr, hr, fun hn => hne' ?_⟩)
      by_cases e:p=r
      · subst e; exact A7 _ _ _
      · rw [A6 _ _ e]; exact hn
  · have hne:p≠q := fun e => by subst e; rw [hp] at hn; cases hn
    rw [A6 _ _ hne]
    exact f1.dm q hq (by rw [A6 _ _ hne]; exact hn)
/-- An object is put aside. -/
theorem Gam.aside {p:K4} {φ:AS} {w:World} (g:Gam ρ B h n φ w):Gam ρ B (Ac p h none) n φ w := by
  have get:∀ q o, A8 q (Ac p h none)=some o->A8 q h=some o := fun q o hq => by
    rcases BS hq with ⟨_, e⟩ | ⟨_, hq⟩
    · cases e
    · exact hq
  exact ⟨g.base, g.dom, g.blk, fun q o b s t hq hx => g.obj q o b s t (get q o hq) hx, fun q r o o' b s t s' t' hne hq hr hx hy => g.sep q r o o' b s t s' t' hne (get q o hq) (get r o' hr) hx hy,
    fun q r o o' b s t s' t' hq hpr hr hx hy => g.sup q r o o' b s t s' t' (get q o hq) hpr (get r o' hr) hx hy, g.glob⟩
theorem Yv {ct:Call} {x:Operand} {x':Opd} {args:List Opd} (hcf:IJ P ρ B cf) (hR:Ie P ρ B cf) (h2:∀ f, cf2 (B2 f)=cf f) (ho:o.op = .call ct) (hc:ct.callee = .value x) (hx:AG N x=some x') (ha:BO N ct.args.toList=some args) :
    YO P ρ B N o t h n fun κ => JY cf2 (ev x' t) (args.map (ev · t)) h n κ := by
  intro κ Φ hs φ a w hT g K Q hK
  have g1 := Ae hx hT
  have gargs := F5 ha hT
  cases hv:ev x' t with
  | fn f caps =>
    rw [hv] at g1 hs
    have hs:(Ep (args.map (ev · t)) caps fun l => D0 (cf2 (B2 f) l h n) κ).sat Φ := hs
    rw [D4] at hs
    have hs := Ek hs
    rw [h2] at hs
    obtain ⟨cs, gx, hcs⟩ := J8 g1
    refine Rh (.inl rfl) (fun _ _ h => h) ?_
    have := hcf f _ h n _ hs φ w (ct.args.map a.eval++cs) g (by rw [Array.toList_append, Array.toList_map]; exact FH gargs hcs) o a K Q (fun x w' ⟨v, h1, n1, φ', hΦ, f1, g1, r1⟩ => hK v h1 n1 hΦ φ' x w' f1 g1 r1)
    unfold Oper.wp
    have e3:(execOp a.eval o).run P w=(callFunc f (ct.args.map a.eval++cs)).run P w := by
      simp [execOp, ho, resolve, hc, gx, Deferred.ofValue, invoke]
    rw [e3]; exact this
  | oth ot =>
    rw [hv] at g1 hs
    cases ot with
    | any => exact hs.elim
    | sym i => exact hs.elim
    | no => exact hs.elim
    | iv k lo hi => exact hs.elim
    | os lo hi => exact hs.elim
    | bl => exact hs.elim
    | rs m j => exact hs.elim
    | ss lo hi n c => exact hs.elim
    | ro i lo hi z => exact hs.elim
    | ap i j m => exact hs.elim
    | sy k i => exact hs.elim
    | rb n c => exact hs.elim
    | rx l m z => exact hs.elim
    | rp l => exact hs.elim
    | yl p =>
      have hs:(YS cf2 p (args.map (ev · t)) h n κ).sat Φ := hs
      unfold YS at hs
      rw [BH] at hs
      cases hob:A8 p h with
      | none => rw [hob] at hs; exact hs.elim
      | some ob =>
        rw [hob] at hs
        cases ob with
        | c _ _ _ => exact hs.elim
        | m _ _ _ => exact hs.elim
        | it _ _ _ _ => exact hs.elim
        | it0 => exact hs.elim
        | lp f box =>
          generalize hal:args.map (ev · t)=al at hs gargs
          match al, hs, gargs, hal with
          | [], hs, _, _ => exact hs.elim
          | _::_::_, hs, _, _ => exact hs.elim
          | [y], hs, gargs, hal =>
            have hs:(BQ p h none fun h => D0 (cf2 (B2 f) [.oth .no, .ptr box 0, y] h n) fun v h n => BQ p h (some (.lp f box)) fun h => κ v h n).sat Φ := hs
            rw [BR, AR] at hs
            have hs := Ek hs
            rw [h2] at hs
            have g1:∃ b s tot, φ p=some (b, s, tot)∧a.eval x = .func (.yield b) #[] #[] := by simpa only [Av] using g1
            obtain ⟨b, s, tot, hφ, gx⟩ := g1
            obtain ⟨hs0, A, fn, tmps, D, hA, hrec, hsz, hbox⟩ := g.obj p _ b s tot hob hφ
            subst hs0
            obtain ⟨X, l0, hX, rX, h0⟩ := Ax.1 gargs
            have h0 := AA.1 h0
            subst h0
            have hargs:ct.args.map a.eval = #[X] := by
              have:(ct.args.map a.eval).toList=[X] := by rw [Array.toList_map]; exact hX
              cases hh:ct.args.map a.eval with
              | mk l => rw [hh] at this; simp at this; rw [this]
            have unc:∀ q s tot, φ q=some (b, s, tot)->A8 q (Ac p h none)=none := fun q s' tot' hq => by
              by_cases e:p=q
              · subst e; exact A7 _ _ _
              · rw [A6 _ _ e]
                cases hq':A8 q h with
                | none => rfl
                | some o2 =>
                  rcases g.sep p q _ o2 b 0 tot s' tot' e hob hq' hφ hq with e | e
                  · cases e
                  · have := g.sup q p o2 _ b s' tot' 0 tot hq' e hob hq hφ; cases this
            have rnd := hR f A fn hA box y _ n _ hs φ w tmps X b D g.aside hrec unc hsz hbox rX
            refine ⟨fun f _ => trivial, ?_⟩
            have e3:(o.semAt (Nq none).round a.eval).run P w = .ok (.round b fn (tmps.setIfInBounds A.par X) A.asg A.bod) w := by
              have e4:(Instr.yield b #[X]).run P w = .ok (.round b fn (tmps.setIfInBounds A.par X) A.asg A.bod) w := by
                have := run_yield (P := P) (args := #[X]) hrec rfl
                simpa [FN] using this
              show (execOp a.eval o).run P w=_
              simp [execOp, ho, resolve, hc, gx, Deferred.ofValue, invoke, hargs, e4]
            rw [e3]
            refine ⟨fun h => (by cases h), rnd.mono fun e w' ⟨he, v, h1, n1, φ', hv, hΦ, f1, g1⟩ => ?_⟩
            subst he
            have hΦ:(BQ p h1 (some (.lp f box)) fun h => κ v h n1).sat Φ := hΦ
            rw [BR, AR] at hΦ
            subst hv
            have hbl := (g.blk p b 0 tot hφ).2
            have hw':w'.heap[b]? = w.heap[b]? := f1.old b hbl unc
            obtain ⟨g2, f2⟩ := g.back hob hφ rfl rfl f1 g1 hw'
            exact hK _ _ _ hΦ φ' (.bool true) w' f2 g2 (by simp only [Av])
  | _ => rw [hv] at hs; exact hs.elim
end
end
end Go.Ev

namespace Go.Ev
set_option linter.unusedVariables false
abbrev Od := GM->S->Heap->K4->R
abbrev r0:Od := fun _ t h n => .ok .nrm t h n
/-- It comes to its end by no other way than an exit. -/
def AC.ends (c:AC):Bool := @AC.rec (fun _ => Bool) false (fun _ _ x y => or x y) (fun _ => false) (fun _ _ => false) (fun _ _ _ x y => and x y) (fun _ _ _ => false) (fun _ _ => true) (fun _ => true) true (fun _ => true) (fun _ _ _ _ => false) c
def Co (r:R) (κ:S->Heap->K4->R):R :=
  @R.rec (fun _ => R) (fun e t h n => @Ex.rec (fun _ => R) (κ t h n) (fun id => .ok (.exit id) t h n) (.ok .ret t h n) e) (C8 "") (fun w => .fail w) (fun _ _ a b => .both a b) r
def Ah (id:Nat) (r:R) (κ:S->Heap->K4->R):R :=
  @R.rec (fun _ => R) (fun e t h n => @Ex.rec (fun _ => R) (κ t h n) (fun j => br (Nat.beq j id) (κ t h n) (.ok (.exit j) t h n)) (.ok .ret t h n) e) (C8 "") (fun w => .fail w) (fun _ _ a b => .both a b) r
def B0 (body:S->Heap->K4->R):S->Heap->K4->R := Cg body 1000000000
def Vp (n:K4) (κ:K4->K4->R):R := n.nx16 fun b => b.nx16 fun n => κ b n
abbrev V7 (al:Bool) (n:K4) (κ:K4->K4->R):R := Yg al (Vp n κ) (κ n n)
abbrev VV (ea eb:Bool) (v:V) (a b:Od->Od) (rest:Od) (env:GM) (t:S) (h:Heap) (n:K4):R :=
  Yg ea (AZ v (a r0 env t h n) (b rest env t h n)) (Yg eb (AZ v (a rest env t h n) (b r0 env t h n)) (Co (AZ v (a r0 env t h n) (b r0 env t h n)) fun t h n => rest [] t h n))
abbrev HF (sm:SM) (cf:E8) (c:AC):Od->Od :=
  @AC.rec (fun _ => Od->Od) (fun rest => rest) (fun _ _ a b rest => a (b rest)) (fun l rest env t h n => Dx sm cf l env t h n rest)
    (fun al l rest env t h n => V7 al n fun b n => E5 sm cf b l env t h h n fun env t _ h n => rest env t h n)
    (fun c x y a b rest env t h n => BE sm env t c fun v => VV x.ends y.ends v a b rest env t h n)
    (fun id _ b rest env t h n => Ah id (b r0 env t h n) fun t h n => rest [] t h n)
    (fun _ b _ _ t h n => B0 (fun t h n => b r0 [] t h n) t h n) (fun id _ _ t h n => .ok (.exit id) t h n) (fun _ _ t h n => .ok .ret t h n) (DZ "")
    (fun pre sp d post rest env t h n => Dx sm cf pre env t h n fun env t h n => YQ cf sp (BE sm env t) h n fun v h n => Du sm d t v fun t => Dx sm cf post (C6 d v env) t h n rest) c
def EJ (sm:SM) (dom:List K2) (c:Opd):Bool := @Opd.rec (fun _ => Bool) (fun p => Ea sm dom p) (fun _ => true) c
def RG (sm:SM) (dom:List K2) (sp:Sp):Bool := @Sp.rec (fun _ => Bool) (fun x => EJ sm dom x) (fun x => EJ sm dom x) (fun x => EJ sm dom x) (fun _ l => l.all (EJ sm dom)) (fun x l => EJ sm dom x&&l.all (EJ sm dom)) sp
/-- Are all registers that it reads kept, or told? -/
def Kk (sm:SM) (c:AC):(List K2->Bool)->List K2->Bool :=
  @AC.rec (fun _ => (List K2->Bool)->List K2->Bool) (fun r => r) (fun _ _ a b r => a (b r)) (fun l r dom => GG sm l dom&&r (CZ l dom))
    (fun al l r dom => IW sm l dom&&r (IP l dom))
    (fun c x y a b r dom => EJ sm dom c&&br x.ends (a (fun _ => true) dom&&b r dom) (br y.ends (a r dom&&b (fun _ => true) dom) (a (fun _ => true) dom&&(b (fun _ => true) dom&&r []))))
    (fun id _ b r dom => b (fun _ => true) dom&&r []) (fun _ b _ _ => b (fun _ => true) []) (fun _ _ _ => true) (fun _ _ => true) (fun _ _ _ => true)
    (fun pre sp d post r dom => GG sm pre dom&&(RG sm (CZ pre dom) sp&&(GG sm post (Gv d (CZ pre dom))&&r (CZ post (Gv d (CZ pre dom)))))) c
section
variable {P:Program} {ρ:Env} {B N:Nat} {cf:CF} {cf2:E8} {sm:SM}
/-- What is asked behind a piece of code whose ways are joined. -/
def Ui (κ:S->Heap->K4->R) (Φ:R->Prop):R->Prop
  | .ok .nrm t h n => (κ t h n).sat Φ
  | .ok e t h n => Φ (.ok e t h n)
  | _ => False
theorem Hi {κ:S->Heap->K4->R} {Φ:R->Prop}:∀ {r:R}, (Co r κ).sat Φ->r.sat (Ui κ Φ)
  | .ok e t h n, hs => by cases e <;> exact hs
  | .rv _ _ _, hs => hs.elim
  | .fail _, hs => hs.elim
  | .both a b, hs => ⟨Hi (r := a) hs.1, Hi (r := b) hs.2⟩
theorem WP {body:S->Heap->K4->R} {k:Nat} {Φ:R->Prop} {t:S} {h:Heap} {n:K4} (hs:(Cg body (k+1) t h n).sat Φ):(body t h n).sat (Ui (Cg body k) Φ) := by
  have e:Cg body (k+1) t h n=@R.rec (fun _ => R) (fun e t h n => @Ex.rec (fun _ => R) (Cg body k t h n) (fun id => .ok (.exit id) t h n) (.ok .ret t h n) e) (C8 "") (fun w => .fail w) (fun _ _ a b => .both a b) (body t h n) := rfl
  rw [e] at hs
  generalize body t h n=r at hs
  clear e
  induction r with
  | ok e t h n => cases e <;> exact hs
  | rv _ _ _ => exact hs.elim
  | fail _ => exact hs.elim
  | both a b iha ihb => exact ⟨iha hs.1, ihb hs.2⟩
def ZM (id:Nat) (κ:S->Heap->K4->R) (Φ:R->Prop):R->Prop
  | .ok .nrm t h n => (κ t h n).sat Φ
  | .ok (.exit j) t h n => (j=id∧(κ t h n).sat Φ)∨(j≠id∧Φ (.ok (.exit j) t h n))
  | .ok .ret t h n => Φ (.ok .ret t h n)
  | _ => False
theorem I6 {id:Nat} {κ:S->Heap->K4->R} {Φ:R->Prop}:∀ {r:R}, (Ah id r κ).sat Φ->r.sat (ZM id κ Φ)
  | .ok e t h n, hs => by
    cases e with
    | nrm => exact hs
    | ret => exact hs
    | exit j =>
      have hs:(br (Nat.beq j id) (κ t h n) (R.ok (.exit j) t h n)).sat Φ := hs
      cases hj:Nat.beq j id with
      | true => rw [hj] at hs; exact .inl ⟨Nat.eq_of_beq_eq_true hj, hs⟩
      | false => rw [hj] at hs; exact .inr ⟨fun e => by subst e; simp at hj, hs⟩
  | .rv _ _ _, hs => hs.elim
  | .fail _, hs => hs.elim
  | .both a b, hs => ⟨I6 (r := a) hs.1, I6 (r := b) hs.2⟩
/-- What code comes to whose rest is nothing. -/
def Vu (P:Program) (ρ:Env) (B N:Nat) (sm:SM) (C:Code) (t:Regs) (h:Heap) (n:K4) (Φ:R->Prop):Prop :=
  ∀ φ a w, TR ρ N φ t a->Gam ρ B h n φ w->∀ (Q:Exit->Act->World->Prop),
    (∀ e t1 h1 n1, Φ (.ok e t1 h1 n1)->∀ φ' a' w' tf, Fr h h1 φ φ' n n1 w w'->Gam ρ B h1 n1 φ' w'->TR ρ N φ' tf a'->(∀ p s, CK p sm=some s->S.get s t1=Bx p tf)->Q (Qv e) a' w')->C.wp P Q a w
def Wg (P:Program) (ρ:Env) (B N:Nat) (sm:SM) (cf2:E8) (C:Code):Prop :=
  ∀ (rest:Od) (rOk:List K2->Bool) (dom:List K2) (env:GM) (t:Regs) (t':S) (h:Heap) (n:K4) (Φ:R->Prop),
    Kk sm (B8 P N C) rOk dom=true->RI sm dom env t t'->(HF sm cf2 (B8 P N C) rest env t' h n).sat Φ →
    ∀ φ a w, TR ρ N φ t a->Gam ρ B h n φ w->∀ (Q:Exit->Act->World->Prop),
      (∀ e t1 h1 n1, Φ (.ok e t1 h1 n1)->e ≠ .nrm->∀ φ' a' w' tf, Fr h h1 φ φ' n n1 w w'->Gam ρ B h1 n1 φ' w'->TR ρ N φ' tf a'->(∀ p s, CK p sm=some s->S.get s t1=Bx p tf)->Q (Qv e) a' w') →
      ((B8 P N C).ends=false->∀ dom2 env2 t2 t2' h2 n2, rOk dom2=true->RI sm dom2 env2 t2 t2'->(rest env2 t2' h2 n2).sat Φ->∀ φ2 a2 w2, Fr h h2 φ φ2 n n2 w w2->Gam ρ B h2 n2 φ2 w2->TR ρ N φ2 t2 a2->Q .normal a2 w2) →
      C.wp P Q a w
theorem Wg.join {C:Code} (H:Wg P ρ B N sm cf2 C) {dom:List K2} {env:GM} {t:Regs} {t':S} {h:Heap} {n:K4} {Φ:R->Prop} (hok:Kk sm (B8 P N C) (fun _ => true) dom=true) (ri:RI sm dom env t t')
    (hx:(HF sm cf2 (B8 P N C) r0 env t' h n).sat Φ):Vu P ρ B N sm C t h n Φ := by
  intro φ a w hT g Q hQ
  refine H r0 _ dom env t t' h n Φ hok ri hx φ a w hT g Q (fun e t1 h1 n1 hΦ _ φ' a' w' tf f1 g1 T1 hk => hQ e t1 h1 n1 hΦ φ' a' w' tf f1 g1 T1 hk) fun _ dom2 env2 t2 t2' h2 n2 _ ri2 hr φ2 a2 w2 f2 g2 T2 => ?_
  have hr:Φ (R.ok .nrm t2' h2 n2) := hr
  exact hQ _ _ _ _ hr φ2 a2 w2 t2 f2 g2 T2 ri2.keep
theorem Xd {o:Oper} {d:Option K2} (h:YB N o=some d):R8 N o.dst d := by
  unfold YB at h
  cases hd:o.dst with
  | none => rw [hd] at h; cases h; trivial
  | some s =>
    rw [hd] at h
    obtain ⟨p, hp, rfl⟩ := Ak h
    exact DM hp
theorem Nx {ops:Array Oper}:∀ {l:List Oper} {pre:List AOp} {sp:Sp} {d:Option K2} {post:List AOp}, Pe P N ops l=some (pre, sp, d, post) →
    ∃ l1 o l2, l=l1++o::l2∧HH P N ops l1=some pre∧cSp P N o=some sp∧o.guard=none∧R8 N o.dst d∧HH P N ops l2=some post
  | [], pre, sp, d, post, h => by cases h
  | o::l, pre, sp, d, post, h => by
    unfold Pe at h
    split at h
    · rename_i sp' hsp
      split at h
      · rename_i d' post' hg hd hp
        cases h
        exact ⟨[], o, l, rfl, rfl, hsp, hg, Xd hd, hp⟩
      · cases h
    · split at h
      · cases h
      · rename_i r hr
        split at h
        · rename_i x hx
          obtain ⟨pre', sp', d', post'⟩ := r
          cases h
          obtain ⟨l1, o', l2, rfl, h1, h2, h3, h4, h5⟩ := Nx hr
          refine ⟨o::l1, o', l2, rfl, ?_, h2, h3, h4, h5⟩
          simp only [HH, hx, h1]
        · cases h
/-- The kinds of maps that are ranged over are told by the program's types. -/
theorem Aba {cf:CF} {cf2:E8} (hcf:IJ P ρ B cf) (hR:Ie P ρ B cf) (h2:∀ f, cf2 (B2 f)=cf f) {o:Oper} {sp:Sp} (hc:cSp P N o=some sp) {t:Regs} {h:Heap} {n:K4}:YO P ρ B N o t h n (YQ cf2 sp (fun x κ => κ (ev x t)) h n) := by
  have tl:∀ (l:List Opd) (κ:List V->R), Gf (fun x κ => κ (ev x t)) l κ=κ (l.map (ev · t)) := fun l κ => FY (fun x _ κ => rfl)
  unfold cSp at hc
  split at hc
  · rename_i ty x ho
    split at hc
    · rename_i kt e ht
      obtain ⟨x', hx, rfl⟩ := Ak hc
      exact (T0 ho hx ht).sp.in_
    · cases hc
  · rename_i x s ho
    split at hc
    · cases hc
    · rename_i hs
      obtain ⟨x', hx, rfl⟩ := Ak hc
      have:s=false := by simpa using hs
      subst this
      exact (YR ho hx).in_
  · rename_i x ho
    obtain ⟨x', hx, rfl⟩ := Ak hc
    exact (Tr ho hx).sp.in_
  · rename_i ct ho
    split at hc
    · rename_i f hcal
      split at hc
      · obtain ⟨l, hl, rfl⟩ := Ak hc
        have e:YQ cf2 (.tcl f l) (fun x κ => κ (ev x t)) h n=fun κ => D0 (cf2 (B2 f) (l.map (ev · t)) h n) κ := by
          funext κ
          exact tl l _
        rw [e]
        exact (Zi hcf h2 ho hcal hl).in_
      · cases hc
    · rename_i s hcal
      split at hc
      · rename_i x l hx hl
        cases hc
        have e:YQ cf2 (.dcl x l) (fun x κ => κ (ev x t)) h n=fun κ => JY cf2 (ev x t) (l.map (ev · t)) h n κ := by
          funext κ
          exact tl l _
        rw [e]
        exact Yv hcf hR h2 ho hcal hx hl
      · cases hc
    · cases hc
  · cases hc
theorem Zl (hρ:BK ρ) (hm:P.follows .mixedOrders=true) (hct:IJ P ρ B cf) (hR:Ie P ρ B cf) (h2:∀ f, cf2 (B2 f)=cf f):∀ C:Code, Wg P ρ B N sm cf2 C := by
  have hcf := hct.ok
  intro C
  induction C with
  | skip => intro rest rOk dom env t t' h n Φ hok ri hx φ a w hT g Q hex hre; exact wp_skip (hre rfl dom env t t' h n hok ri hx φ a w (Fr.refl h φ n w) g hT)
  | label l => intro rest rOk dom env t t' h n Φ hok ri hx φ a w hT g Q hex hre; exact wp_label (hre rfl dom env t t' h n hok ri hx φ a w (Fr.refl h φ n w) g hT)
  | exit id =>
    intro rest rOk dom env t t' h n Φ hok ri hx φ a w hT g Q hex hre
    exact wp_exit (hex _ _ _ _ hx (fun h => by cases h) φ a w t (Fr.refl h φ n w) g hT ri.keep)
  | ret =>
    intro rest rOk dom env t t' h n Φ hok ri hx φ a w hT g Q hex hre
    exact wp_ret (hex _ _ _ _ hx (fun h => by cases h) φ a w t (Fr.refl h φ n w) g hT ri.keep)
  | region id ops draw =>
    intro rest rOk dom env t t' h n Φ hok ri hx φ a w hT g Q hex hre
    cases draw with
    | true =>
      have hok:Kk sm (CD P N ops true) rOk dom=true := hok
      have hx:(HF sm cf2 (CD P N ops true) rest env t' h n).sat Φ := hx
      have hre:(CD P N ops true).ends=false->_ := hre
      unfold CD at hok hx hre
      split at hx
      · exact hx.elim
      · rename_i os hos
        simp only [hos, if_true] at hok hre
        simp only [if_true] at hx
        split at hx
        · rename_i hpl
          rw [if_pos hpl] at hok hre
          have hre := hre rfl
          have good := Plot.good_of_ok hpl
          have hok:(IW sm ((Cq (ops.toList.map Dl) os).sk.map (LA os)) dom&&rOk (IP ((Cq (ops.toList.map Dl) os).sk.map (LA os)) dom))=true := hok
          rw [Bool.and_eq_true] at hok
          have run:∀ (b n0:K4), (E5 sm cf2 b ((Cq (ops.toList.map Dl) os).sk.map (LA os)) env t' h h n0 (fun env t _ h n => rest env t h n)).sat Φ →
              ((Cq (ops.toList.map Dl) os).HasAl->b.d = .d0)->((Cq (ops.toList.map Dl) os).HasAl->n.toN≤b.toN)->((Cq (ops.toList.map Dl) os).HasAl->b.toN+16≤n0.toN)->n.toN≤n0.toN->(Code.region id ops true).wp P Q a w := fun b n0 hx k1 k2 k3 k4 => by
            obtain ⟨st, env1, t1', s0, hst, ri1, e3⟩ := J3 h2 (s := ⟨t, h, h, n0⟩) hok.1 ri (R.sat_good hx)
            have e3:E5 sm cf2 b ((Cq (ops.toList.map Dl) os).sk.map (LA os)) env t' h h n0 (fun env t _ h n => rest env t h n)=_ := e3
            rw [e3, List.length_map] at hx
            rw [List.length_map] at ri1
            have r:Rn P N ops os (Cq (ops.toList.map Dl) os) cf b st := ⟨good, hos, rfl, fun l x hlx => hst l _ (by rw [List.getElem?_map, hlx]; rfl)⟩
            refine Ta (φ := φ) hρ hm hcf r s0 k1 k2 k3 k4 hT g fun φ' a' w' f1 g1 T1 => ?_
            exact hre _ env1 _ t1' _ _ hok.2 ri1 hx φ' a' w' f1 g1 T1
          have hx:(V7 ((Cq (ops.toList.map Dl) os).sk.any SI.isAl) n (fun b n => E5 sm cf2 b ((Cq (ops.toList.map Dl) os).sk.map (LA os)) env t' h h n fun env t _ h n => rest env t h n)).sat Φ := hx
          cases hal:(Cq (ops.toList.map Dl) os).sk.any SI.isAl with
          | false =>
            have hn := Agt good hal
            rw [hal] at hx
            exact run n n hx (fun h => absurd h hn) (fun h => absurd h hn) (fun h => absurd h hn) (Nat.le_refl _)
          | true =>
            rw [hal] at hx
            have hx:(n.nx16 (fun b => b.nx16 fun n0 => E5 sm cf2 b ((Cq (ops.toList.map Dl) os).sk.map (LA os)) env t' h h n0 fun env t _ h n => rest env t h n)).sat Φ := hx
            rcases K4.nx16_eq n (fun b => b.nx16 fun n0 => E5 sm cf2 b ((Cq (ops.toList.map Dl) os).sk.map (LA os)) env t' h h n0 fun env t _ h n => rest env t h n) with ⟨w', e1⟩ | ⟨b, hbn, hb0, e1⟩
            · rw [e1] at hx; exact hx.elim
            · rw [e1] at hx
              rcases K4.nx16_eq b (fun n0 => E5 sm cf2 b ((Cq (ops.toList.map Dl) os).sk.map (LA os)) env t' h h n0 fun env t _ h n => rest env t h n) with ⟨w', e2⟩ | ⟨n0, hn0, _, e2⟩
              · rw [e2] at hx; exact hx.elim
              · rw [e2] at hx
                have hbn' := SR hbn hb0 hn0
                exact run b n0 hx (fun _ => hb0) (fun _ => hbn'.1) (fun _ => by omega) (by omega)
        · exact hx.elim
    | false =>
      have hok:Kk sm (match Pe P N ops ops.toList with | some r => .spl r.1 r.2.1 r.2.2.1 r.2.2.2 | none => CD P N ops false) rOk dom=true := hok
      have hx:(HF sm cf2 (match Pe P N ops ops.toList with | some r => .spl r.1 r.2.1 r.2.2.1 r.2.2.2 | none => CD P N ops false) rest env t' h n).sat Φ := hx
      have hre:AC.ends (match Pe P N ops ops.toList with | some r => .spl r.1 r.2.1 r.2.2.1 r.2.2.2 | none => CD P N ops false)=false->_ := hre
      cases hspl:Pe P N ops ops.toList with
      | some r =>
        rw [hspl] at hok hx hre
        obtain ⟨pre, sp, d, post⟩ := r
        have hre := hre rfl
        obtain ⟨l1, o, l2, hl, c1, c2, c3, c4, c5⟩ := Nx hspl
        have hok:(GG sm pre dom&&(RG sm (CZ pre dom) sp&&(GG sm post (Gv d (CZ pre dom))&&rOk (CZ post (Gv d (CZ pre dom))))))=true := hok
        rw [Bool.and_eq_true, Bool.and_eq_true, Bool.and_eq_true] at hok
        obtain ⟨k1, k2, k3, k4⟩ := hok
        have hx:(Dx sm cf2 pre env t' h n fun env t h n => YQ cf2 sp (BE sm env t) h n fun v h n => Du sm d t v fun t => Dx sm cf2 post (C6 d v env) t h n rest).sat Φ := hx
        obtain ⟨env1, t2, t2', h2', n2, e2, ri1, H⟩ := DQ (B := B) (ops := ops) hρ hcf h2 c1 k1 ri (R.sat_good hx)
        rw [e2] at hx
        refine (wpIn_wide (n := 0)).1 (wpIn_region_list ?_)
        rw [hl]
        refine En (l := none) (.inl rfl) (H φ a w hT g Q (wpListIn (Nq none) 0 P ops Q (o::l2)) fun φ' a' w' f1 g1 T1 => ?_)
        have one:∀ x:Opd, EJ sm (CZ pre dom) x=true->∀ κ:V->R, BE sm env1 t2' x κ=κ (ev x t2) := fun x hk κ => by
          cases x with
          | c v => rfl
          | t p => exact ri1.tell hk κ
        have lst:∀ l:List Opd, l.all (EJ sm (CZ pre dom))=true->∀ κ:List V->R, Gf (BE sm env1 t2') l κ=Gf (fun x κ => κ (ev x t2)) l κ := fun l hk κ => by
          rw [FY (t := t2) (fun x hx => one x (List.all_eq_true.1 hk x hx)), FY (t := t2) (fun x _ κ => rfl)]
        have et:YQ cf2 sp (BE sm env1 t2') h2' n2=YQ cf2 sp (fun x κ => κ (ev x t2)) h2' n2 := by
          funext κ
          cases sp with
          | rng x => exact one x k2 _
          | nxt x => exact one x k2 _
          | ent x => exact one x k2 _
          | tcl f l => exact lst l k2 _
          | dcl x l =>
            have k2:(EJ sm (CZ pre dom) x&&l.all (EJ sm (CZ pre dom)))=true := k2
            rw [Bool.and_eq_true] at k2
            exact (one x k2.1 _).trans (lst l k2.2 _)
        rw [et] at hx
        have hw:Region.wanted o (yielded ops a'.tmps)=true := by simp [Region.wanted, c3]
        have st := Aba (P := P) (ρ := ρ) (B := B) hct hR h2 c2 _ Φ hx φ' a' w' T1 g1 (wpListIn (Nq none) 0 P ops Q l2) Q fun v h3 n3 hs φ2 x w2 f2 g2 r2 => by
          obtain ⟨t3', e3, ri3⟩ := ri1.put d v (fun t => Dx sm cf2 post (C6 d v env1) t h3 n3 rest)
          have hs:(Du sm d t2' v fun t => Dx sm cf2 post (C6 d v env1) t h3 n3 rest).sat Φ := hs
          rw [e3] at hs
          obtain ⟨env4, t4, t4', h4, n4, e4, ri4, H4⟩ := DQ (B := B) (ops := ops) hρ hcf h2 c5 k3 ri3 (R.sat_good hs)
          rw [e4] at hs
          have := En (l := none) (n := 0) (r := []) (.inl rfl) (H4 φ2 _ w2 ((T1.mono f2.ext).puts c4 r2) g2 Q (wpListIn (Nq none) 0 P ops Q []) fun φ3 a3 w3 f3 g3 T3 => hre _ env4 t4 t4' h4 n4 k4 ri4 hs φ3 a3 w3 (Fr.trans f1 (Fr.trans f2 f3)) g3 T3)
          rwa [List.append_nil] at this
        show wpListIn (Nq none) 0 P ops Q (o::l2) a' w'
        simp only [wpListIn]
        rw [if_pos hw]
        exact st
      | none =>
      rw [hspl] at hok hx hre
      have hok:Kk sm (CD P N ops false) rOk dom=true := hok
      have hx:(HF sm cf2 (CD P N ops false) rest env t' h n).sat Φ := hx
      have hre:(CD P N ops false).ends=false->_ := hre
      unfold CD at hok hx hre
      split at hx
      · exact hx.elim
      · rename_i al hal
        simp only [hal, Bool.false_eq_true, if_false] at hok hre
        simp only [Bool.false_eq_true, if_false] at hx
        have hre := hre rfl
        have hok:(GG sm al dom&&rOk (CZ al dom))=true := hok
        rw [Bool.and_eq_true] at hok
        have hx:(Dx sm cf2 al env t' h n rest).sat Φ := hx
        obtain ⟨env1, t2, t2', h2', n2, e2, ri1, H⟩ := QQ (B := B) (ops := ops) hρ hcf h2 hal hok.1 ri (R.sat_good hx)
        rw [e2] at hx
        exact wp_region_list (H φ a w hT g Q fun φ' a' w' f1 g1 T1 => hre _ env1 t2 t2' h2' n2 hok.2 ri1 hx φ' a' w' f1 g1 T1)
  | seq x y ihx ihy =>
    intro rest rOk dom env t t' h n Φ hok ri hx φ a w hT g Q hex hre
    have hok:Kk sm (B8 P N x) (Kk sm (B8 P N y) rOk) dom=true := hok
    have hx:(HF sm cf2 (B8 P N x) (HF sm cf2 (B8 P N y) rest) env t' h n).sat Φ := hx
    have hre:or (B8 P N x).ends (B8 P N y).ends=false->_ := hre
    refine wp_seq (ihx _ _ dom env t t' h n Φ hok ri hx φ a w hT g _ (fun e t1 h1 n1 hΦ hne φ' a' w' tf f1 g1 T1 hk => ?_) fun he dom2 env2 t2 t2' h2' n2 hok2 ri2 hr φ2 a2 w2 f2 g2 T2 => ?_)
    · have := hex e t1 h1 n1 hΦ hne φ' a' w' tf f1 g1 T1 hk
      cases e with
      | nrm => exact absurd rfl hne
      | exit id => exact this
      | ret => exact this
    · exact ihy rest rOk dom2 env2 t2 t2' h2' n2 Φ hok2 ri2 hr φ2 a2 w2 T2 g2 Q (fun e t1 h1 n1 hΦ hne φ' a' w' tf f1 g1 T1 hk => hex e t1 h1 n1 hΦ hne φ' a' w' tf (Fr.trans f2 f1) g1 T1 hk)
        fun he' dom3 env3 t3 t3' h3 n3 hok3 ri3 hr3 φ3 a3 w3 f3 g3 T3 => hre (by rw [he, he']; rfl) dom3 env3 t3 t3' h3 n3 hok3 ri3 hr3 φ3 a3 w3 (Fr.trans f2 f3) g3 T3
  | cond c x y ihx ihy =>
    intro rest rOk dom env t t' h n Φ hok ri hx φ a w hT g Q hex hre
    have hok:Kk sm (match AG N c with | some c => .cond c (B8 P N x) (B8 P N y) | none => .bad "a test") rOk dom=true := hok
    have hx:(HF sm cf2 (match AG N c with | some c => .cond c (B8 P N x) (B8 P N y) | none => .bad "a test") rest env t' h n).sat Φ := hx
    have hre:AC.ends (match AG N c with | some c => .cond c (B8 P N x) (B8 P N y) | none => .bad "a test")=false->_ := hre
    split at hx
    · rename_i c' hc
      simp only [hc] at hok hre
      have hre:and (B8 P N x).ends (B8 P N y).ends=false->_ := hre
      have hok:(EJ sm dom c'&&br (B8 P N x).ends (Kk sm (B8 P N x) (fun _ => true) dom&&Kk sm (B8 P N y) rOk dom) (br (B8 P N y).ends (Kk sm (B8 P N x) rOk dom&&Kk sm (B8 P N y) (fun _ => true) dom) (Kk sm (B8 P N x) (fun _ => true) dom&&(Kk sm (B8 P N y) (fun _ => true) dom&&rOk []))))=true := hok
      rw [Bool.and_eq_true] at hok
      have hx:(BE sm env t' c' (fun v => VV (B8 P N x).ends (B8 P N y).ends v (HF sm cf2 (B8 P N x)) (HF sm cf2 (B8 P N y)) rest env t' h n)).sat Φ := hx
      have e0:∀ κ:V->R, BE sm env t' c' κ=κ (ev c' t) := fun κ => by
        cases c' with
        | c v => rfl
        | t p => exact ri.tell hok.1 κ
      rw [e0] at hx
      have g1 := Ae hc hT
      generalize hv:ev c' t=v at hx g1
      obtain ⟨_, hok⟩ := hok
      unfold VV at hx
      -- the value is a bool
      have key:∀ (A C:R) (κ:R->R), (∀ s, κ (.fail s) = .fail s)->(∀ x y, κ (.both x y) = .both (κ x) (κ y))->(κ (AZ v A C)).sat Φ->∃ q, a.eval c = .bool q∧(κ (br q A C)).sat Φ := fun A C κ hκ hb hh => by
        have no:(κ (.fail "")).sat Φ->∃ q, a.eval c = .bool q∧(κ (br q A C)).sat Φ := fun hh => by rw [hκ] at hh; exact hh.elim
        cases v with
        | bool q => exact ⟨q, EG g1, by cases q <;> exact hh⟩
        | oth o => cases o with
          | bl =>
            have g1 := g1
            simp only [Av] at g1
            obtain ⟨q, hq⟩ := g1
            have hh:(κ (.both A C)).sat Φ := hh
            rw [hb] at hh
            exact ⟨q, hq, by cases q; exact hh.2; exact hh.1⟩
          | _ => exact no hh
        | _ => exact no hh
      cases hex':(B8 P N x).ends with
      | true =>
        rw [hex'] at hx hok hre
        have hok:(Kk sm (B8 P N x) (fun _ => true) dom&&Kk sm (B8 P N y) rOk dom)=true := hok
        rw [Bool.and_eq_true] at hok
        obtain ⟨q, hq, hx⟩ := key _ _ id (fun _ => rfl) (fun _ _ => rfl) hx
        refine wp_cond hq ?_
        cases q with
        | true => exact ihx r0 _ dom env t t' h n Φ hok.1 ri hx φ a w hT g Q hex fun he => by rw [hex'] at he; cases he
        | false => exact ihy rest rOk dom env t t' h n Φ hok.2 ri hx φ a w hT g Q hex fun he => hre (by rw [he]; rfl)
      | false =>
        rw [hex'] at hx hok hre
        have hre := hre rfl
        cases hey:(B8 P N y).ends with
        | true =>
          rw [hey] at hx hok
          have hok:(Kk sm (B8 P N x) rOk dom&&Kk sm (B8 P N y) (fun _ => true) dom)=true := hok
          rw [Bool.and_eq_true] at hok
          obtain ⟨q, hq, hx⟩ := key _ _ id (fun _ => rfl) (fun _ _ => rfl) hx
          refine wp_cond hq ?_
          cases q with
          | true => exact ihx rest rOk dom env t t' h n Φ hok.1 ri hx φ a w hT g Q hex fun _ => hre
          | false => exact ihy r0 _ dom env t t' h n Φ hok.2 ri hx φ a w hT g Q hex fun he => by rw [hey] at he; cases he
        | false =>
          rw [hey] at hx hok
          have hok:(Kk sm (B8 P N x) (fun _ => true) dom&&(Kk sm (B8 P N y) (fun _ => true) dom&&rOk []))=true := hok
          rw [Bool.and_eq_true, Bool.and_eq_true] at hok
          obtain ⟨q, hq, hx⟩ := key _ _ (fun r => Co r fun t h n => rest [] t h n) (fun _ => rfl) (fun _ _ => rfl) hx
          refine wp_cond hq ?_
          have fin:∀ (Z:Code), Vu P ρ B N sm Z t h n (Ui (fun t h n => rest [] t h n) Φ)->Z.wp P Q a w := fun Z HZ => by
            refine HZ φ a w hT g Q fun e0 t0 h0 n0 hj φ' a' w' tf f1 g1 T1 hk => ?_
            cases e0 with
            | nrm => exact hre [] [] tf t0 h0 n0 hok.2.2 (RI.start ri.inj hk) hj φ' a' w' f1 g1 T1
            | exit id => exact hex _ _ _ _ hj (fun h => by cases h) φ' a' w' tf f1 g1 T1 hk
            | ret => exact hex _ _ _ _ hj (fun h => by cases h) φ' a' w' tf f1 g1 T1 hk
          cases q with
          | true => exact fin x (ihx.join hok.1 ri (Hi hx))
          | false => exact fin y (ihy.join hok.2.1 ri (Hi hx))
    · exact hx.elim
  | block id b ih =>
    intro rest rOk dom env t t' h n Φ hok ri hx φ a w hT g Q hex hre
    have hok:(Kk sm (B8 P N b) (fun _ => true) dom&&rOk [])=true := hok
    rw [Bool.and_eq_true] at hok
    have hx:(Ah id (HF sm cf2 (B8 P N b) r0 env t' h n) (fun t h n => rest [] t h n)).sat Φ := hx
    have hre := hre rfl
    refine wp_block (ih.join hok.1 ri (I6 hx) φ a w hT g _ fun e0 t0 h0 n0 hx φ' a' w' tf f1 g1 T1 hk => ?_)
    cases e0 with
    | nrm => exact hre [] [] tf t0 h0 n0 hok.2 (RI.start ri.inj hk) hx φ' a' w' f1 g1 T1
    | exit j =>
      show (if j=id then Q .normal a' w' else Q (.exit j) a' w')
      rcases hx with ⟨hj, hx⟩ | ⟨hj, hx⟩
      · rw [if_pos hj]; exact hre [] [] tf t0 h0 n0 hok.2 (RI.start ri.inj hk) hx φ' a' w' f1 g1 T1
      · rw [if_neg hj]; exact hex _ _ _ _ hx (fun h => by cases h) φ' a' w' tf f1 g1 T1 hk
    | ret => exact hex _ _ _ _ hx (fun h => by cases h) φ' a' w' tf f1 g1 T1 hk
  | loop b ih =>
    intro rest rOk dom env t t' h n Φ hok ri hx φ a w hT g Q hex hre
    have hok:Kk sm (B8 P N b) (fun _ => true) []=true := hok
    have hx:(Cg (fun t h n => HF sm cf2 (B8 P N b) r0 [] t h n) 1000000000 t' h n).sat Φ := hx
    refine wp_loop_rounds 1000000000 ?_
    have key:∀ (k:Nat) (t:Regs) (t':S) (h:Heap) (n:K4), (∀ p s, CK p sm=some s->S.get s t'=Bx p t)->(Cg (fun t h n => HF sm cf2 (B8 P N b) r0 [] t h n) k t' h n).sat Φ->∀ φ a w, TR ρ N φ t a->Gam ρ B h n φ w →
        (∀ e t1 h1 n1, Φ (.ok e t1 h1 n1)->e ≠ .nrm->∀ φ' a' w' tf, Fr h h1 φ φ' n n1 w w'->Gam ρ B h1 n1 φ' w'->TR ρ N φ' tf a'->(∀ p s, CK p sm=some s->S.get s t1=Bx p tf)->Q (Qv e) a' w')->Code.rounds P b Q k a w := by
      intro k
      induction k with
      | zero => intro t t' h n _ hx; exact hx.elim
      | succ k ihk =>
        intro t t' h n hk0 hx φ a w hT g hQ
        refine ih.join hok (RI.start ri.inj hk0) (WP hx) φ a w hT g _ fun e0 t0 h0 n0 hx φ' a' w' tf f1 g1 T1 hk => ?_
        cases e0 with
        | nrm => exact ihk tf t0 h0 n0 hk hx φ' a' w' T1 g1 fun e t1 h1 n1 hΦ hne φ2 a2 w2 tf2 f2 g2 T2 hk2 => hQ e t1 h1 n1 hΦ hne φ2 a2 w2 tf2 (Fr.trans f1 f2) g2 T2 hk2
        | exit id => exact hQ _ _ _ _ hx (fun h => by cases h) φ' a' w' tf f1 g1 T1 hk
        | ret => exact hQ _ _ _ _ hx (fun h => by cases h) φ' a' w' tf f1 g1 T1 hk
    exact key _ t t' h n ri.keep hx φ a w hT g hex
  | rangeFunc _ _ _ _ => intro rest rOk dom env t t' h n Φ hok ri hx; exact hx.elim
  | scope _ => intro rest rOk dom env t t' h n Φ hok ri hx; exact hx.elim
  | goto _ => intro rest rOk dom env t t' h n Φ hok ri hx; exact hx.elim
  | refuse _ => intro rest rOk dom env t t' h n Φ hok ri hx; exact hx.elim
end
end Go.Ev

namespace Go.Ev
set_option linter.unusedVariables false
def Zo (v:V):List K4->List K4 :=
  @V.rec (fun _ => List K4->List K4) (fun _ => List K4->List K4)
    (fun _ _ a => a) (fun _ a => a) (fun p _ a => p::a) (fun p _ _ _ _ _ a => p::a) (fun _ _ a => a) (fun _ ih a => ih a) (fun _ a => a) (fun p a => p::a) (fun _ _ ih a => ih a) (fun _ ih a => ih a) (fun _ a => a)
    (fun a => a) (fun _ _ ihx ihl a => ihx (ihl a)) v
def Yo (l:List V) (a:List K4):List K4 := @List.rec V (fun _ => List K4) a (fun v _ ih => Zo v ih) l
def Aga (es:List (V×V)) (a:List K4):List K4 := @List.rec (V×V) (fun _ => List K4) a (fun e _ ih => @Prod.rec V V (fun _ => List K4) (fun x y => Zo x (Zo y ih)) e) es
def UI (o:Ob) (a:List K4):List K4 :=
  @Ob.rec (fun _ => List K4) (fun cs _ _ => @Cs.rec (fun _ => List K4) (fun xs => Yo xs a) (fun _ _ => a) cs) (fun es _ _ => Aga es a) (fun _ _ _ _ => a) a (fun _ _ => a) o
/-- An object that may be run on. -/
def HX (o:Ob):Bool := @Ob.rec (fun _ => Bool) (fun _ sup _ => @Bool.rec (fun _ => Bool) true false sup) (fun _ _ _ => true) (fun _ _ _ _ => false) false (fun _ _ => false) o
/-- An object without its tie to an elder one. -/
def Ov (o:Ob):Ob := @Ob.rec (fun _ => Ob) (fun cs sup _ => .c cs sup none) (fun es bs c => .m es bs c) (fun p s l c => .it p s l c) .it0 (fun f b => .lp f b) o
theorem SB (o:Ob):Cc (Ov o)=none := by cases o <;> rfl
theorem Xb {ρ:Env} {φ:AS} {w:World} {o:Ob} {b s tot:Nat} (h:Gr ρ φ w o b s tot):Gr ρ φ w (Ov o) b s tot := by cases o <;> exact h
/-- The objects that are reached. -/
def Ed (h:Heap) (k:Nat):List K4->Heap->List K4->(Heap->List K4->R)->R :=
  @Nat.rec (fun _ => List K4->Heap->List K4->(Heap->List K4->R)->R) (fun _ hs acc κ => κ hs acc)
    (fun _ ih todo hs acc κ => @List.rec K4 (fun _ => R) (κ hs acc) (fun p todo _ => Bz p hs fun o => @Option.rec Ob (fun _ => R)
      (Bz p h fun o => @Option.rec Ob (fun _ => R) (ih todo hs acc κ) (fun ob => br (HX ob) (BQ p hs (some (Ov ob)) fun hs => ih (UI ob todo) hs (p::acc) κ) (ih todo hs acc κ)) o)
      (fun _ => ih todo hs acc κ) o) todo) k
def Oh (p n:K4):Bool := Nat.ble (Nat.succ p.toN) n.toN
def Fs (n:K4) (v:V):Bool :=
  @V.rec (fun _ => Bool) (fun _ => Bool)
    (fun _ _ => true) (fun _ => true) (fun p _ => Oh p n) (fun p _ _ _ _ _ => Oh p n) (fun _ _ => true) (fun _ ih => ih) (fun _ => true) (fun p => Oh p n) (fun _ _ ih => ih) (fun _ ih => ih) (fun o => @Ot.rec (fun _ => Bool) true (fun _ => true) (fun p => Oh p n) false (fun _ _ _ => true) (fun _ _ => true) true (fun _ _ => true) (fun _ _ _ _ => true) (fun _ _ _ _ => true) (fun _ _ _ => true) (fun _ _ => true) (fun _ _ => true) (fun _ _ _ => true) (fun _ => true) o)
    true (fun _ _ ihx ihl => br ihx ihl false) v
def L1 (n:K4) (l:List V):Bool := Fs n (.tup l)
def Ly (p:Option K4) (κ:R):R := @Option.rec K4 (fun _ => R) κ (AT "") p
def QF (n:K4) (a b:Cs) (κ:R):R :=
  @Cs.rec (fun _ => R) (fun xs => @Cs.rec (fun _ => R) (fun ys => br (L1 n xs) (BV (.tup xs) (.tup ys) κ) (.fail "")) (AB "") b)
    (fun m c => @Cs.rec (fun _ => R) (AT "") (fun m' c' => br (Nat.beq m m') (br (Nat.beq c c') κ (.fail "")) (.fail "")) b) a
def KX (n:K4) (a:List (V×V)):List (V×V)->R->R :=
  @List.rec (V×V) (fun _ => List (V×V)->R->R) (fun b κ => @List.rec (V×V) (fun _ => R) κ (C8 "") b)
    (fun e _ ih b κ => @List.rec (V×V) (fun _ => R) (.fail "") (fun e' b _ => @Prod.rec V V (fun _ => R) (fun x y => @Prod.rec V V (fun _ => R) (fun x' y' => br (Fs n x) (br (Fs n y) (BV x x' (BV y y' (ih b κ))) (.fail "")) (.fail "")) e') e) b) a
def Lu (a:List Nat):List Nat->R->R :=
  @List.rec Nat (fun _ => List Nat->R->R) (fun b κ => @List.rec Nat (fun _ => R) κ (C8 "") b)
    (fun x _ ih b κ => @List.rec Nat (fun _ => R) (.fail "") (fun y b _ => br (Nat.beq x y) (ih b κ) (.fail "")) b) a
def RB (n:K4) (a b:Ob) (κ:R):R :=
  @Ob.rec (fun _ => R) (fun cs sup prev => br sup (.fail "") (Ly prev (@Ob.rec (fun _ => R) (fun cs' sup' prev' => br sup' (.fail "") (Ly prev' (QF n cs cs' κ))) (C8 "") (Ff "") (.fail "") (AB "") b)))
    (fun es bs c => @Ob.rec (fun _ => R) (C8 "") (fun es' bs' c' => br (Nat.beq c c') (Lu bs bs' (KX n es es' κ)) (.fail "")) (Ff "") (.fail "") (AB "") b) (Ff "") (.fail "") (AB "") a
def H8 (n:K4) (a b:Ck) (κ:R):R :=
  @Option.rec Ob (fun _ => R) (@Option.rec Ob (fun _ => R) κ (AT "") b) (fun x => @Option.rec Ob (fun _ => R) (.fail "") (fun y => RB n x y κ) b) a
def Gu (n:K4) (h1 h':Heap) (acc:List K4) (κ:R):R :=
  @List.rec K4 (fun _ => R) κ (fun p _ ih => Bz p h1 fun a => Bz p h' fun b => H8 n a b ih) acc
/-- Without the tie to memory that is new too. -/
def Aa8 (n:K4) (p:Option K4):Option K4 := @Option.rec K4 (fun _ => Option K4) none (fun q => @Bool.rec (fun _ => Option K4) none (some q) (Oh q n)) p
def Jw (n:K4) (o:Ck):Ck := @Option.rec Ob (fun _ => Ck) none (fun o => some (@Ob.rec (fun _ => Ob) (fun cs sup prev => .c cs sup (Aa8 n prev)) (fun es bs c => .m es bs c) (fun p s l c => .it p s l c) .it0 (fun f b => .lp f b) o)) o
/-- The results: alike, and nothing new in them; or two new slices that are alike. -/
def IL (n:K4) (v1:V) (h1:Heap) (v':V) (h':Heap) (κ:R):R :=
  br (Fs n v1) (BV v1 v' κ) (Ef v1 (.fail "") fun p off len cap ex esz => Ef v' (.fail "") fun p' off' len' cap' ex' esz' =>
    br (Oh p n) (.fail "") (br (Oh p' n) (.fail "") (BV (.sl p off len cap ex esz) (.sl p off' len' cap' ex' esz') (Bz p h1 fun a => Bz p' h' fun b => H8 n (Jw n a) (Jw n b) κ))))
def QW (r:R):(V->Heap->R)->R :=
  @R.rec (fun _ => (V->Heap->R)->R) (fF5 "") (fun v h _ κ => κ v h) (fun w _ => .fail w) (fun _ _ iha _ κ => iha κ) r
def Wt (a b:K4) (κ:K4->R):R := br (Nat.ble a.toN b.toN) (κ b) (κ a)
def UX (n:K4) (v1:V) (h1:Heap) (acc:List K4) (r:R):K4->(K4->R)->R :=
  @R.rec (fun _ => K4->(K4->R)->R) (DZ "") (fun v h m mx κ => IL n v1 h1 v h (Gu n h1 h acc (Wt m mx κ))) (fun w _ _ => .fail w) (fun _ _ iha ihb mx κ => iha mx fun mx => ihb mx κ) r
def RK (o:Ob) (h:Heap) (κ:Heap->R):R := @Ob.rec (fun _ => R) (fun _ _ prev => @Option.rec K4 (fun _ => R) (κ h) (fun q => BQ q h none κ) prev) (fun _ _ _ => κ h) (fun _ _ _ _ => κ h) (κ h) (fun _ _ => κ h) o
def PT (h h1:Heap) (acc:List K4):(Heap->R)->R :=
  @List.rec K4 (fun _ => (Heap->R)->R) (fun κ => κ h)
    (fun p _ ih κ => ih fun hf => Bz p h fun o => @Option.rec Ob (fun _ => R) (.fail "") (fun o => RK o hf fun hf => Bz p h1 fun o1 => BQ p hf o1 κ) o) acc
def Z4 (n:K4) (v1:V) (h1 hf:Heap) (m:K4):R :=
  br (Fs n v1) (.rv v1 hf m) (Ef v1 (.fail "") fun p off len cap ex esz => Bz p h1 fun o => @Option.rec Ob (fun _ => R) (.fail "") (fun ob => BQ m hf (some ob) fun hf => m.nx fun m' => .rv (.sl m off len cap ex esz) hf m') (Jw n o))
def Z9 (n:K4) (h:Heap) (acc:List K4) (r:R):R :=
  QW r fun v1 h1 => UX n v1 h1 acc r n fun m => PT h h1 acc fun hf => Z4 n v1 h1 hf m
def brK (k:Nat) (run:Heap->R) (args:List V) (h:Heap) (n:K4):R :=
  Ed h k (Yo args []) AM [] fun hs acc => Z9 n h acc (run hs)
section
variable {P:Program} {ρ:Env} {B:Nat}
structure Sub (h hs:Heap) (acc:List K4):Prop where
  sub:∀ p o, A8 p hs=some o->∃ o0, A8 p h=some o0∧o=Ov o0∧HX o0=true∧p∈acc
  has:∀ p, p∈acc->∃ o, A8 p hs=some o
theorem Sub.mem {h hs:Heap} {acc:List K4} (s:Sub h hs acc) {p:K4} {o:Ob} (hp:A8 p hs=some o):p∈acc := by
  obtain ⟨_, _, _, _, m⟩ := s.sub p o hp; exact m
theorem Sub.in_h {h hs:Heap} {acc:List K4} (s:Sub h hs acc) {p:K4} {o:Ob} (hp:A8 p hs=some o):∃ o0, A8 p h=some o0 := by
  obtain ⟨o0, e, _⟩ := s.sub p o hp; exact ⟨o0, e⟩
theorem Gb {h:Heap}:∀ (k:Nat) {todo:List K4} {hs:Heap} {acc:List K4} {κ:Heap->List K4->R}, Sub h hs acc->∃ hs' acc', Sub h hs' acc'∧Ed h k todo hs acc κ=κ hs' acc'
  | 0, todo, hs, acc, κ, s => ⟨hs, acc, s, rfl⟩
  | k+1, [], hs, acc, κ, s => ⟨hs, acc, s, rfl⟩
  | k+1, p::todo, hs, acc, κ, s => by
    have e:Ed h (k+1) (p::todo) hs acc κ=Bz p hs fun o => @Option.rec Ob (fun _ => R)
      (Bz p h fun o => @Option.rec Ob (fun _ => R) (Ed h k todo hs acc κ) (fun ob => br (HX ob) (BQ p hs (some (Ov ob)) fun hs => Ed h k (UI ob todo) hs (p::acc) κ) (Ed h k todo hs acc κ)) o)
      (fun _ => Ed h k todo hs acc κ) o := rfl
    rw [e, BH]
    cases h1:A8 p hs with
    | some o => exact Gb k s
    | none =>
      show ∃ hs' acc', Sub h hs' acc'∧(Bz p h fun o => @Option.rec Ob (fun _ => R) (Ed h k todo hs acc κ) (fun ob => br (HX ob) (BQ p hs (some (Ov ob)) fun hs => Ed h k (UI ob todo) hs (p::acc) κ) (Ed h k todo hs acc κ)) o)=κ hs' acc'
      rw [BH]
      cases h2:A8 p h with
      | none => exact Gb k s
      | some ob =>
        show ∃ hs' acc', Sub h hs' acc'∧br (HX ob) (BQ p hs (some (Ov ob)) fun hs => Ed h k (UI ob todo) hs (p::acc) κ) (Ed h k todo hs acc κ)=κ hs' acc'
        cases h3:HX ob with
        | false => exact Gb k s
        | true =>
          show ∃ hs' acc', Sub h hs' acc'∧(BQ p hs (some (Ov ob)) fun hs => Ed h k (UI ob todo) hs (p::acc) κ)=κ hs' acc'
          rw [BR, AR]
          refine Gb k ⟨fun q o hq => ?_, fun q hq => ?_⟩
          · rcases BS hq with ⟨rfl, e⟩ | ⟨hne, hq⟩
            · cases e; exact ⟨ob, h2, rfl, h3, List.mem_cons_self ..⟩
            · obtain ⟨o0, a, e, b, c⟩ := s.sub q o hq; exact ⟨o0, a, e, b, List.mem_cons_of_mem _ c⟩
          · by_cases e:p=q
            · subst e; exact ⟨Ov ob, A7 _ _ _⟩
            · rw [A6 _ _ e]
              rcases List.mem_cons.1 hq with e' | hq
              · exact absurd e'.symm e
              · exact s.has q hq
theorem Sub.nil {h:Heap}:Sub h AM [] := ⟨fun p o hp => (by rw [EB] at hp; cases hp), fun p hp => (by simp at hp)⟩
theorem Gl {p n:K4}:Oh p n=true ↔ p.toN<n.toN := by unfold Oh; rw [Ab]; omega
mutual
theorem F3 {n:K4} {φ1 φ2:AS} (hφ:∀ p x, p.toN<n.toN->φ1 p=some x->φ2 p=some x):∀ {v:V} {x:Value}, Fs n v=true->Av ρ φ1 v x->Av ρ φ2 v x
  | .int _ _, _, _, r => by simpa only [Av] using r
  | .bool _, _, _, r => by simpa only [Av] using r
  | .ptr p _, _, ho, r => by
    have ho:Oh p n=true := ho
    simp only [Av] at r ⊢
    obtain ⟨b, s, tot, hp, e⟩ := r
    exact ⟨b, s, tot, hφ _ _ (Gl.1 ho) hp, e⟩
  | .sl p _ _ _ _ _, _, ho, r => by
    have ho:Oh p n=true := ho
    simp only [Av] at r ⊢
    obtain ⟨b, s, tot, o, c, hp, e⟩ := r
    exact ⟨b, s, tot, o, c, hφ _ _ (Gl.1 ho) hp, e⟩
  | .str _ _, _, _, r => by simpa only [Av] using r
  | .agg l, _, ho, r => by
    have ho:L1 n l=true := ho
    simp only [Av] at r ⊢
    obtain ⟨cs, e, hl, hh⟩ := r
    exact ⟨cs, e, GC hφ ho hl, hh⟩
  | .nil _, _, _, r => by simpa only [Av] using r
  | .map p, _, ho, r => by
    have ho:Oh p n=true := ho
    simp only [Av] at r ⊢
    obtain ⟨b, s, tot, hp, e⟩ := r
    exact ⟨b, s, tot, hφ _ _ (Gl.1 ho) hp, e⟩
  | .fn _ l, _, ho, r => by
    have ho:L1 n l=true := ho
    simp only [Av] at r ⊢
    obtain ⟨cs, e, hl⟩ := r
    exact ⟨cs, e, GC hφ ho hl⟩
  | .tup l, _, ho, r => by
    have ho:L1 n l=true := ho
    simp only [Av] at r ⊢
    obtain ⟨cs, e, hl⟩ := r
    exact ⟨cs, e, GC hφ ho hl⟩
  | .oth o, _, ho, r => by
    cases o with
    | yl p =>
      have ho:Oh p n=true := ho
      simp only [Av] at r ⊢
      obtain ⟨b, s, tot, hp, e⟩ := r
      exact ⟨b, s, tot, hφ _ _ (Gl.1 ho) hp, e⟩
    | _ => simp only [Av] at r ⊢ <;> exact r
theorem GC {n:K4} {φ1 φ2:AS} (hφ:∀ p x, p.toN<n.toN->φ1 p=some x->φ2 p=some x):∀ {l:List V} {xs:List Value}, L1 n l=true->BP ρ φ1 l xs->BP ρ φ2 l xs
  | [], _, _, r => by simpa only [BP] using r
  | v::l, _, ho, r => by
    have ho:br (Fs n v) (L1 n l) false=true := ho
    simp only [BP] at r ⊢
    obtain ⟨y, ys, e, hy, hys⟩ := r
    cases h1:Fs n v with
    | false => rw [h1] at ho; cases ho
    | true =>
      rw [h1] at ho
      exact ⟨y, ys, e, F3 hφ h1 hy, GC hφ ho hys⟩
end
theorem PH {n:K4}:∀ {l:List V}, L1 n l=true->∀ v∈l, Fs n v=true
  | [], _, v, hv => by simp at hv
  | x::l, ho, v, hv => by
    have ho:br (Fs n x) (L1 n l) false=true := ho
    cases h1:Fs n x with
    | false => rw [h1] at ho; cases ho
    | true =>
      rw [h1] at ho
      rcases List.mem_cons.1 hv with e | hv
      · subst e; exact h1
      · exact PH (show L1 n l=true from ho) v hv
/-- An object that names nothing new, and shares its memory with no other. -/
def JV (n:K4):Ob->Prop
  | .c (.l xs) sup prev => L1 n xs=true∧sup=false∧prev=none
  | .c (.b _ _) sup prev => sup=false∧prev=none
  | .m es _ _ => ∀ e∈es, Fs n e.1=true∧Fs n e.2=true
  | _ => False
theorem JV.prev {n:K4} {o:Ob} (h:JV n o):Cc o=none := by
  cases o with
  | c cs sup prev => cases cs with
    | l xs => exact h.2.2
    | b m c => exact h.2
  | m es bs c => rfl
  | it _ _ _ _ => exact h.elim
  | it0 => exact h.elim
  | lp _ _ => exact h.elim
theorem JV.sup {n:K4} {o:Ob} (h:JV n o):JU o=false := by
  cases o with
  | c cs sup prev => cases cs with
    | l xs => exact h.2.1
    | b m c => exact h.1
  | m es bs c => rfl
  | it _ _ _ _ => exact h.elim
  | it0 => exact h.elim
  | lp _ _ => exact h.elim
theorem SF {n:K4} {o:Ck} {ob:Ob} (h:Jw n o=some ob):∃ obr, o=some obr∧(Cc ob=none->∀ q, Cc obr=some q->n.toN≤q.toN) ∧ ∀ {φ:AS} {w:World} {b s tot:Nat}, Gr ρ φ w obr b s tot->Gr ρ φ w ob b s tot := by
  cases o with
  | none => cases h
  | some obr =>
    refine ⟨obr, rfl, ?_⟩
    cases obr with
    | c cs sup prev =>
      have h:some (Ob.c cs sup (Aa8 n prev))=some ob := h
      cases h
      refine ⟨fun hp q hq => ?_, fun k => k⟩
      have hq:prev=some q := hq
      subst hq
      have hp:@Bool.rec (fun _ => Option K4) none (some q) (Oh q n)=none := hp
      cases hl:Oh q n with
      | true => rw [hl] at hp; cases hp
      | false =>
        rcases Nat.lt_or_ge q.toN n.toN with h | h
        · rw [Gl.2 h] at hl; cases hl
        · exact h
    | m _ _ _ => cases h; exact ⟨fun _ q hq => (by cases hq), fun k => k⟩
    | it _ _ _ _ => cases h; exact ⟨fun _ q hq => (by cases hq), fun k => k⟩
    | it0 => cases h; exact ⟨fun _ q hq => (by cases hq), fun k => k⟩
    | lp _ _ => cases h; exact ⟨fun _ q hq => (by cases hq), fun k => k⟩
theorem Ln {n:K4} {φ1 φ2:AS} (hφ:∀ p x, p.toN<n.toN->φ1 p=some x->φ2 p=some x) {w:World} {o:Ob} {b s tot:Nat} (ho:JV n o) (k:Gr ρ φ1 w o b s tot):Gr ρ φ2 w o b s tot := by
  cases o with
  | c cs sup prev =>
    obtain ⟨c, e, fr, h1, h2, h3, h4, h5⟩ := k
    refine ⟨c, e, fr, h1, h2, h3, h4, fun i v hv => ?_⟩
    obtain ⟨x, k1, k2, k3⟩ := h5 i v hv
    refine ⟨x, k1, ?_, k3⟩
    cases cs with
    | l xs => exact F3 hφ (PH ho.1 v (List.mem_of_getElem? hv)) k2
    | b m c =>
      by_cases hi:i<m
      · rw [Cs.b_pos hi] at hv; cases hv; exact F3 hφ rfl k2
      · rw [Cs.b_neg hi] at hv; cases hv
  | m es bs clk =>
    obtain ⟨ents, h1, h2, h3⟩ := k
    refine ⟨ents, h1, ?_, h3⟩
    have ho':∀ e∈es, Fs n e.1=true∧Fs n e.2=true := ho
    clear h1 h3 ho
    generalize ents.toList=l at h2
    induction es generalizing l with
    | nil => exact h2
    | cons e es ih =>
      obtain ⟨y, ys, rfl, k1, k2, k3⟩ := h2
      obtain ⟨o1, o2⟩ := ho' e (List.mem_cons_self ..)
      exact ⟨y, ys, rfl, F3 hφ o1 k1, F3 hφ o2 k2, ih (fun e he => ho' e (List.mem_cons_of_mem _ he)) _ k3⟩
  | it _ _ _ _ => exact ho.elim
  | it0 => exact ho.elim
  | lp _ _ => exact ho.elim
theorem Lt {p:Option K4} {κ:R} (h:(Ly p κ).good):p=none∧Ly p κ=κ := by
  cases p with
  | none => exact ⟨rfl, rfl⟩
  | some q => exact h.elim
theorem JI:∀ {a b:List Nat} {κ:R}, (Lu a b κ).good->a=b∧Lu a b κ=κ
  | [], [], κ, _ => ⟨rfl, rfl⟩
  | [], _::_, κ, h => h.elim
  | _::_, [], κ, h => h.elim
  | x::a, y::b, κ, h => by
    have h:R.good (br (Nat.beq x y) (Lu a b κ) (.fail "")) := h
    obtain ⟨h1, e1⟩ := Af h
    rw [e1] at h
    obtain ⟨h2, e2⟩ := JI h
    exact ⟨by rw [Nat.eq_of_beq_eq_true h1, h2], Eq.trans e1 e2⟩
theorem JS {n:K4}:∀ {a b:List (V×V)} {κ:R}, (KX n a b κ).good->a=b∧(∀ e∈a, Fs n e.1=true∧Fs n e.2=true)∧KX n a b κ=κ
  | [], [], κ, _ => ⟨rfl, fun e he => by simp at he, rfl⟩
  | [], _::_, κ, h => h.elim
  | _::_, [], κ, h => h.elim
  | (x, y)::a, (x', y')::b, κ, h => by
    have h:R.good (br (Fs n x) (br (Fs n y) (BV x x' (BV y y' (KX n a b κ))) (.fail "")) (.fail "")) := h
    obtain ⟨h1, e1⟩ := Af h
    rw [e1] at h
    obtain ⟨h2, e2⟩ := Af h
    rw [e2] at h
    obtain ⟨h3, e3⟩ := Eg h
    rw [e3] at h
    obtain ⟨h4, e4⟩ := Eg h
    rw [e4] at h
    obtain ⟨h5, h6, e5⟩ := JS h
    refine ⟨by rw [h3, h4, h5], fun e he => ?_, Eq.trans e1 (e2.trans (e3.trans (e4.trans e5)))⟩
    rcases List.mem_cons.1 he with e' | he
    · subst e'; exact ⟨h1, h2⟩
    · exact h6 e he
theorem Ql {n:K4} {a b:Ob} {κ:R} (h:(RB n a b κ).good):a=b∧JV n a∧RB n a b κ=κ := by
  cases a with
  | c cs sup prev =>
    have h0:R.good (br sup (.fail "") (Ly prev (@Ob.rec (fun _ => R) (fun cs' sup' prev' => br sup' (.fail "") (Ly prev' (QF n cs cs' κ))) (C8 "") (Ff "") (.fail "") (AB "") b))) := h
    obtain ⟨h1, e1⟩ := Gh h0
    rw [e1] at h0
    obtain ⟨h2, e2⟩ := Lt h0
    rw [e2] at h0
    cases b with
    | c cs' sup' prev' =>
      have h0:R.good (br sup' (.fail "") (Ly prev' (QF n cs cs' κ))) := h0
      obtain ⟨h3, e3⟩ := Gh h0
      rw [e3] at h0
      obtain ⟨h4, e4⟩ := Lt h0
      rw [e4] at h0
      subst h1 h2 h3 h4
      cases cs with
      | l xs => cases cs' with
        | l ys =>
          have h0:R.good (br (L1 n xs) (BV (.tup xs) (.tup ys) κ) (.fail "")) := h0
          obtain ⟨h5, e5⟩ := Af h0
          rw [e5] at h0
          obtain ⟨h6, e6⟩ := Eg h0
          cases h6
          exact ⟨rfl, ⟨h5, rfl, rfl⟩, Eq.trans e5 e6⟩
        | b m c => exact h0.elim
      | b m c => cases cs' with
        | l ys => exact h0.elim
        | b m' c' =>
          have h0:R.good (br (Nat.beq m m') (br (Nat.beq c c') κ (.fail "")) (.fail "")) := h0
          obtain ⟨h5, e5⟩ := Af h0
          rw [e5] at h0
          obtain ⟨h6, e6⟩ := Af h0
          exact ⟨by rw [Nat.eq_of_beq_eq_true h5, Nat.eq_of_beq_eq_true h6], ⟨rfl, rfl⟩, Eq.trans e5 e6⟩
    | m _ _ _ => exact h0.elim
    | it _ _ _ _ => exact h0.elim
    | it0 => exact h0.elim
    | lp _ _ => exact h0.elim
  | m es bs c => cases b with
    | m es' bs' c' =>
      have h0:R.good (br (Nat.beq c c') (Lu bs bs' (KX n es es' κ)) (.fail "")) := h
      obtain ⟨h1, e1⟩ := Af h0
      rw [e1] at h0
      obtain ⟨h2, e2⟩ := JI h0
      rw [e2] at h0
      obtain ⟨h3, h4, e3⟩ := JS h0
      refine ⟨by rw [Nat.eq_of_beq_eq_true h1, h2, h3], h4, Eq.trans e1 (e2.trans e3)⟩
    | c _ _ _ => exact h.elim
    | it _ _ _ _ => exact h.elim
    | it0 => exact h.elim
    | lp _ _ => exact h.elim
  | it _ _ _ _ => exact h.elim
  | it0 => exact h.elim
  | lp _ _ => exact h.elim
theorem Jz {n:K4} {a b:Ck} {κ:R} (h:(H8 n a b κ).good):a=b∧(∀ o, a=some o->JV n o)∧H8 n a b κ=κ := by
  cases a with
  | none => cases b with
    | none => exact ⟨rfl, fun o h => (by cases h), rfl⟩
    | some y => exact h.elim
  | some x => cases b with
    | none => exact h.elim
    | some y =>
      obtain ⟨h1, h2, e⟩ := Ql (show R.good (RB n x y κ) from h)
      subst h1
      exact ⟨rfl, fun o h => (by cases h; exact h2), e⟩
theorem Io {n:K4} {h1 h':Heap}:∀ {acc:List K4} {κ:R}, (Gu n h1 h' acc κ).good->(∀ p∈acc, A8 p h1=A8 p h' ∧ ∀ o, A8 p h1=some o->JV n o)∧Gu n h1 h' acc κ=κ
  | [], κ, _ => ⟨fun p hp => by simp at hp, rfl⟩
  | q::acc, κ, h => by
    have e0:Gu n h1 h' (q::acc) κ=H8 n (A8 q h1) (A8 q h') (Gu n h1 h' acc κ) := by
      show (Bz q h1 fun a => Bz q h' fun b => H8 n a b (Gu n h1 h' acc κ))=_
      rw [BH, BH]
    rw [e0] at h
    obtain ⟨a1, a2, e1⟩ := Jz h
    rw [e1] at h
    obtain ⟨a3, e2⟩ := Io h
    refine ⟨fun p hp => ?_, e0.trans (e1.trans e2)⟩
    rcases List.mem_cons.1 hp with e | hp
    · subst e; exact ⟨a1, a2⟩
    · exact a3 p hp
/-- Two results. -/
def Vv (n:K4) (v1:V) (h1:Heap) (v':V) (h':Heap):Prop :=
  (Fs n v1=true∧v1=v')∨(Fs n v1=false ∧ ∃ p p' off len cap ex esz, v1 = .sl p off len cap ex esz∧v' = .sl p' off len cap ex esz∧n.toN≤p.toN∧n.toN≤p'.toN∧Jw n (A8 p h1)=Jw n (A8 p' h') ∧ ∀ o, Jw n (A8 p h1)=some o->JV n o)
theorem NJ {n:K4} {v1 v':V} {h1 h':Heap} {κ:R} (h:(IL n v1 h1 v' h' κ).good):Vv n v1 h1 v' h'∧IL n v1 h1 v' h' κ=κ := by
  unfold IL at h ⊢
  cases ho:Fs n v1 with
  | true =>
    rw [ho] at h
    obtain ⟨a, e⟩ := Eg (show R.good (BV v1 v' κ) from h)
    exact ⟨.inl ⟨ho, a⟩, e⟩
  | false =>
    rw [ho] at h
    have h:R.good (Ef v1 (.fail "") fun p off len cap ex esz => Ef v' (.fail "") fun p' off' len' cap' ex' esz' => br (Oh p n) (.fail "") (br (Oh p' n) (.fail "") (BV (.sl p off len cap ex esz) (.sl p off' len' cap' ex' esz') (Bz p h1 fun a => Bz p' h' fun b => H8 n (Jw n a) (Jw n b) κ)))) := h
    show Vv n v1 h1 v' h'∧(Ef v1 (.fail "") fun p off len cap ex esz => Ef v' (.fail "") fun p' off' len' cap' ex' esz' => br (Oh p n) (.fail "") (br (Oh p' n) (.fail "") (BV (.sl p off len cap ex esz) (.sl p off' len' cap' ex' esz') (Bz p h1 fun a => Bz p' h' fun b => H8 n (Jw n a) (Jw n b) κ))))=κ
    rcases DS h with ⟨_, e1⟩ | ⟨p, off, len, cap, ex, esz, hv, e1⟩
    · rw [e1] at h; exact h.elim
    rw [e1] at h ⊢
    rcases DS h with ⟨_, e2⟩ | ⟨p', off', len', cap', ex', esz', hv', e2⟩
    · rw [e2] at h; exact h.elim
    rw [e2] at h ⊢
    obtain ⟨a1, e3⟩ := Gh h
    rw [e3] at h ⊢
    obtain ⟨a2, e4⟩ := Gh h
    rw [e4] at h ⊢
    obtain ⟨a3, e5⟩ := Eg h
    rw [e5] at h ⊢
    rw [BH, BH] at h ⊢
    obtain ⟨a4, a5, e6⟩ := Jz h
    rw [e6]
    cases a3
    have n1:n.toN≤p.toN := by
      rcases Nat.lt_or_ge p.toN n.toN with h | h
      · rw [Gl.2 h] at a1; cases a1
      · exact h
    have n2:n.toN≤p'.toN := by
      rcases Nat.lt_or_ge p'.toN n.toN with h | h
      · rw [Gl.2 h] at a2; cases a2
      · exact h
    exact ⟨.inr ⟨ho, p, p', off, len, cap, ex, esz, hv, hv', n1, n2, a4, a5⟩, rfl⟩
theorem WW (a b:K4) (κ:K4->R):∃ m:K4, Wt a b κ=κ m∧a.toN≤m.toN∧b.toN≤m.toN := by
  unfold Wt
  cases h:Nat.ble a.toN b.toN with
  | true => exact ⟨b, rfl, Ab.1 h, Nat.le_refl _⟩
  | false =>
    have:¬ a.toN≤b.toN := fun h' => by rw [Ab.2 h'] at h; cases h
    exact ⟨a, rfl, Nat.le_refl _, by omega⟩
/-- All ways are like the first one. -/
def Yi (n:K4) (v1:V) (h1:Heap) (acc:List K4) (m:K4):R->Prop
  | .rv v h n' => Vv n v1 h1 v h∧(∀ p∈acc, A8 p h1=A8 p h ∧ ∀ o, A8 p h1=some o->JV n o)∧n'.toN≤m.toN
  | _ => False
theorem Js {n:K4} {v1:V} {h1:Heap} {acc:List K4}:∀ {r:R} {mx:K4} {κ:K4->R}, (UX n v1 h1 acc r mx κ).good->∃ m:K4, mx.toN≤m.toN∧r.sat (Yi n v1 h1 acc m)∧UX n v1 h1 acc r mx κ=κ m
  | .ok _ _ _ _, mx, κ, h => h.elim
  | .fail _, mx, κ, h => h.elim
  | .rv v h0 n', mx, κ, h => by
    have h:R.good (IL n v1 h1 v h0 (Gu n h1 h0 acc (Wt n' mx κ))) := h
    obtain ⟨a1, e1⟩ := NJ h
    rw [e1] at h
    obtain ⟨a2, e2⟩ := Io h
    rw [e2] at h
    obtain ⟨m, e3, l1, l2⟩ := WW n' mx κ
    exact ⟨m, l2, ⟨a1, a2, l1⟩, Eq.trans e1 (e2.trans e3)⟩
  | .both a b, mx, κ, h => by
    have h:R.good (UX n v1 h1 acc a mx fun mx => UX n v1 h1 acc b mx κ) := h
    obtain ⟨m1, l1, s1, e1⟩ := Js h
    rw [e1] at h
    obtain ⟨m2, l2, s2, e2⟩ := Js h
    refine ⟨m2, Nat.le_trans l1 l2, ⟨R.sat_mono (fun r hr => ?_) s1, s2⟩, Eq.trans e1 e2⟩
    cases r with
    | rv v h0 n' => exact ⟨hr.1, hr.2.1, Nat.le_trans hr.2.2 l2⟩
    | ok _ _ _ _ => exact hr
    | fail _ => exact hr
    | both _ _ => exact hr
theorem JE:∀ {r:R} {κ:V->Heap->R}, (QW r κ).good->∃ v h, QW r κ=κ v h
  | .ok _ _ _ _, κ, h => h.elim
  | .fail _, κ, h => h.elim
  | .rv v h0 n', κ, h => ⟨v, h0, rfl⟩
  | .both a b, κ, h => JE (r := a) h
theorem VM (o:Ob) (h:Heap) (κ:Heap->R):RK o h κ=κ (Dc (Cc o) h) := by
  cases o with
  | c cs sup prev =>
    cases prev with
    | none => rfl
    | some q => show BQ q h none κ=_; rw [BR, AR]; rfl
  | m _ _ _ => rfl
  | it _ _ _ _ => rfl
  | it0 => rfl
  | lp _ _ => rfl
/-- What is left when the ways are laid together. -/
structure PutOK (h h1:Heap) (acc:List K4) (hf:Heap):Prop where
  put:∀ q o, A8 q hf=some o->(q∈acc∧A8 q h1=some o)∨(q ∉ acc∧A8 q h=some o ∧ ∀ p∈acc, ∀ op, A8 p h=some op->Cc op≠some q)
theorem Lh {h h1:Heap}:∀ {acc:List K4} {κ:Heap->R}, (PT h h1 acc κ).good->∃ hf, PutOK h h1 acc hf∧PT h h1 acc κ=κ hf
  | [], κ, _ => ⟨h, ⟨fun q o hq => .inr ⟨by simp, hq, fun p hp => by simp at hp⟩⟩, rfl⟩
  | p::acc, κ, hg => by
    have hg:R.good (PT h h1 acc fun hf => Bz p h fun o => @Option.rec Ob (fun _ => R) (.fail "") (fun o => RK o hf fun hf => Bz p h1 fun o1 => BQ p hf o1 κ) o) := hg
    obtain ⟨hf, ok, e1⟩ := Lh hg
    rw [e1] at hg
    have e0:PT h h1 (p::acc) κ=_ := e1
    rw [e0]
    rw [BH] at hg ⊢
    cases hp:A8 p h with
    | none => rw [hp] at hg; exact hg.elim
    | some op =>
      show ∃ hf', PutOK h h1 (p::acc) hf'∧(RK op hf fun hf => Bz p h1 fun o1 => BQ p hf o1 κ)=κ hf'
      rw [VM, BH, BR, AR]
      refine ⟨_, ⟨fun q o hq => ?_⟩, rfl⟩
      rcases BS hq with ⟨rfl, e⟩ | ⟨hne, hq⟩
      · exact .inl ⟨List.mem_cons_self .., e⟩
      · obtain ⟨k1, hq⟩ := Dp hq
        rcases ok.put q o hq with ⟨a, b⟩ | ⟨a, b, c⟩
        · exact .inl ⟨List.mem_cons_of_mem _ a, b⟩
        · refine .inr ⟨fun hm => ?_, b, fun p' hp' op' hop' => ?_⟩
          · rcases List.mem_cons.1 hm with e | hm
            · exact hne e.symm
            · exact a hm
          · rcases List.mem_cons.1 hp' with e | hp'
            · subst e; rw [hp] at hop'; cases hop'; exact k1
            · exact c p' hp' op' hop'
section
variable {h hs h1 h' hf:Heap} {acc:List K4} {n n' m:K4} {v1 v:V} {φ φ':AS} {w w':World}
theorem G0 (sub:Sub h hs acc) (put:PutOK h h1 acc hf) (g:Gam ρ B h n φ w) {q:K4} {o:Ob} (hq:q ∉ acc) (ho:A8 q hf=some o) {b s tot:Nat} (hφ:φ q=some (b, s, tot)) {p:K4} (hp:p∈acc) {s' tot':Nat} (hφp:φ p=some (b, s', tot')):False := by
  obtain ⟨op', hop⟩ := sub.has p hp
  obtain ⟨op, k1, _, k2, _⟩ := sub.sub p op' hop
  rcases put.put q o ho with ⟨a, _⟩ | ⟨_, a, c⟩
  · exact hq a
  · have hne:p≠q := fun e => hq (e ▸ hp)
    rcases g.sep p q op o b s' tot' s tot hne k1 a hφp hφ with e | e
    · exact c p hp op k1 e
    · have := g.sup q p o op b s tot s' tot' a e k1 hφ hφp
      cases op with
      | c cs sup prev =>
        have this:sup=true := this
        subst this
        cases k2
      | m _ _ _ => cases this
      | it _ _ _ _ => cases this
      | it0 => cases this
      | lp _ _ => cases this
theorem UZ (sub:Sub h hs acc) (put:PutOK h h1 acc hf) (g:Gam ρ B h n φ w) (f1:Fr hs h' φ φ' n n' w w') {q:K4} {o:Ob} (hq:q ∉ acc) (ho:A8 q hf=some o) {b s tot:Nat} (hφ:φ q=some (b, s, tot)):w'.heap[b]? = w.heap[b]? := by
  refine f1.old b (g.blk q b s tot hφ).2 fun p s' tot' hp => ?_
  cases hx:A8 p hs with
  | none => rfl
  | some o' => exact (G0 sub put g hq ho hφ (sub.mem hx) hp).elim
theorem U3 (sub:Sub h hs acc) (put:PutOK h h1 acc hf) (g:Gam ρ B h n φ w) (f1:Fr hs h' φ φ' n n' w w') (g1:Gam ρ B h' n' φ' w')
    (hacc:∀ p∈acc, A8 p h1=A8 p h' ∧ ∀ o, A8 p h1=some o->JV n o) (hm:n.toN≤m.toN):Gam ρ B hf m φ w'∧Fr h hf φ φ n m w w' := by
  have back:∀ p x, p.toN<n.toN->φ' p=some x->φ p=some x := fun p x hp hx => by
    rcases f1.new p x hx with h | ⟨h, _⟩
    · exact h
    · omega
  have inacc:∀ q o, q∈acc->A8 q hf=some o->A8 q h'=some o∧JV n o := fun q o hq ho => by
    rcases put.put q o ho with ⟨_, a⟩ | ⟨a, _⟩
    · exact ⟨(hacc q hq).1 ▸ a, (hacc q hq).2 o a⟩
    · exact absurd hq a
  have outacc:∀ q o, q ∉ acc->A8 q hf=some o->A8 q h=some o := fun q o hq ho => by
    rcases put.put q o ho with ⟨a, _⟩ | ⟨_, a, _⟩
    · exact absurd a hq
    · exact a
  refine ⟨⟨Nat.le_trans g.base f1.size, fun p x hx => Nat.lt_of_lt_of_le (g.dom p x hx) hm, fun p b s tot hx => ⟨(g.blk p b s tot hx).1, Nat.lt_of_lt_of_le (g.blk p b s tot hx).2 f1.size⟩, fun q o b s tot ho hx => ?_, fun p q o o' b s tot s' tot' hne ho ho' hx hy => ?_, fun p q o o' b s tot s' tot' ho hpr ho' hx hy => ?_, g1.glob⟩,
    ⟨AS.le_refl φ, fun _ _ h => .inl h, hm, f1.os, f1.tape, f1.out, f1.size, fun b hb hn => f1.old b hb fun p s tot hp => ?_, fun _ _ _ _ h => .inl h, fun p hp hn => ?_⟩⟩
  · by_cases hq:q∈acc
    · obtain ⟨a, c⟩ := inacc q o hq ho
      exact Ln back c (g1.obj q o b s tot a (f1.ext _ _ hx))
    · exact Cr (UZ sub put g f1 hq ho hx) (g.obj q o b s tot (outacc q o hq ho) hx)
  · by_cases hp:p∈acc
    · by_cases hq:q∈acc
      · exact g1.sep p q o o' b s tot s' tot' hne (inacc p o hp ho).1 (inacc q o' hq ho').1 (f1.ext _ _ hx) (f1.ext _ _ hy)
      · exact (G0 sub put g hq ho' hy hp hx).elim
    · by_cases hq:q∈acc
      · exact (G0 sub put g hp ho hx hq hy).elim
      · exact g.sep p q o o' b s tot s' tot' hne (outacc p o hp ho) (outacc q o' hq ho') hx hy
  · by_cases hp:p∈acc
    · rw [(inacc p o hp ho).2.prev] at hpr; cases hpr
    · by_cases hq:q∈acc
      · exact (G0 sub put g hp ho hx hq hy).elim
      · exact g.sup p q o o' b s tot s' tot' (outacc p o hp ho) hpr (outacc q o' hq ho') hx hy
  · cases hx:A8 p hs with
    | none => rfl
    | some o' => have := hn p s tot hp; obtain ⟨o0, e0⟩ := sub.in_h hx; rw [e0] at this; cases this
  · cases hx:A8 p hf with
    | none => rfl
    | some o =>
      exfalso
      by_cases hq:p∈acc
      · obtain ⟨o', ho'⟩ := sub.has p hq
        obtain ⟨o0, e0⟩ := sub.in_h ho'
        rw [e0] at hn; cases hn
      · rw [outacc p o hq hx] at hn; cases hn
theorem Zj (sub:Sub h hs acc) (put:PutOK h h1 acc hf) (g:Gam ρ B h n φ w) (f1:Fr hs h' φ φ' n n' w w') (g1:Gam ρ B h' n' φ' w') {x:Value} (r1:Av ρ φ' v x)
    (way:Yi n v1 h1 acc m (.rv v h' n')) (hm:n.toN≤m.toN) {vf:V} {hff:Heap} {nf:K4} (hres:Z4 n v1 h1 hf m = .rv vf hff nf) :
    ∃ φ'', Fr h hff φ φ'' n nf w w'∧Gam ρ B hff nf φ'' w'∧Av ρ φ'' vf x := by
  obtain ⟨res, hacc, hn'⟩ := way
  obtain ⟨gb, fb⟩ := U3 sub put g f1 g1 hacc hm
  have back:∀ p x, p.toN<n.toN->φ' p=some x->φ p=some x := fun p x hp hx => by
    rcases f1.new p x hx with h | ⟨h, _⟩
    · exact h
    · omega
  unfold Z4 at hres
  rcases res with ⟨ho, e⟩ | ⟨ho, p, p', off, len, cap, ex, esz, e1, e2, hp, hp', heq, hold⟩
  · subst e
    rw [ho] at hres
    have hres:R.rv v1 hf m=R.rv vf hff nf := hres
    cases hres
    exact ⟨φ, fb, gb, F3 back ho r1⟩
  · rw [ho] at hres
    subst e1 e2
    have hres:(Bz p h1 fun o => @Option.rec Ob (fun _ => R) (.fail "") (fun ob => BQ m hf (some ob) fun hf => m.nx fun m' => .rv (.sl m off len cap ex esz) hf m') (Jw n o)) = .rv vf hff nf := hres
    rw [BH] at hres
    cases hob:Jw n (A8 p h1) with
    | none => rw [hob] at hres; cases hres
    | some ob =>
      rw [hob] at hres
      have hres:(BQ m hf (some ob) fun hf => m.nx fun m' => .rv (.sl m off len cap ex esz) hf m') = .rv vf hff nf := hres
      rw [BR, AR] at hres
      rcases K4.nx_eq m (fun m' => .rv (.sl m off len cap ex esz) (Ac m hf (some ob)) m') with ⟨why, e⟩ | ⟨m', hm', e⟩
      · rw [e] at hres; cases hres
      rw [e] at hres
      cases hres
      have hOld := hold ob hob
      obtain ⟨obr, hob', hpv, hcl⟩ := SF (heq ▸ hob)
      obtain ⟨b', s', tot', o, cap', hφ', gx, c1, c2, c3, c4⟩ := CY r1
      have hmn:φ m=none := by
        cases hx:φ m with
        | none => rfl
        | some x => have := g.dom m x hx; omega
      have hoblk := g1.blk p' b' s' tot' hφ'
      -- no object that was there lies in that block
      have apart:∀ q oq, A8 q hf=some oq->∀ s tot, φ q=some (b', s, tot)->False := fun q oq hq s tot hx => by
        have hqn := g.dom q _ hx
        have hne:p'≠q := fun e => by rw [e] at hp'; omega
        by_cases hqa:q∈acc
        · rcases put.put q oq hq with ⟨_, a⟩ | ⟨a, _⟩
          · have a':A8 q h'=some oq := (hacc q hqa).1 ▸ a
            rcases g1.sep p' q obr oq b' s' tot' s tot hne hob' a' hφ' (f1.ext _ _ hx) with e | e
            · have := hpv hOld.prev q e; omega
            · rw [((hacc q hqa).2 oq a).prev] at e; cases e
          · exact a hqa
        · rcases f1.fresh p' b' s' tot' hφ' with h | h | ⟨r, sr, tr, hr, hne'⟩
          · have := g.dom p' _ h; omega
          · have := (g.blk q b' s tot hx).2; omega
          · cases hx':A8 r hs with
            | none => exact hne' hx'
            | some o' => exact G0 sub put g hqa hq hx (sub.mem hx') hr
      refine ⟨EC φ m (b', s', tot'), ⟨AS.le_trans fb.ext (D8 hmn), fun q y hy => ?_, by omega, fb.os, fb.tape, fb.out, fb.size, fb.old, fun q b s t hx => ?_, fun q hq hn => ?_⟩, ⟨gb.base, fun q y hy => ?_, fun q b s t hy => ?_, fun q oq b s t hq hy => ?_, fun q r oq or b s t s2 t2 hne hq hr hx hy => ?_, fun q r oq or b s t s2 t2 hq hpr hr hx hy => ?_, gb.glob⟩, ?_⟩
      · rcases AE hy with ⟨rfl, _⟩ | ⟨_, hy⟩
        · exact .inr ⟨hm, by omega⟩
        · exact .inl hy
      · rcases AE hx with ⟨rfl, e⟩ | ⟨_, hx⟩
        · cases e
          rcases f1.fresh p' b' s' tot' hφ' with h | h | ⟨r, sr, tr, hr, hne'⟩
          · have := g.dom p' _ h; omega
          · exact .inr (.inl h)
          · refine .inr (.inr ⟨r, sr, tr, hr, ?_⟩)
            cases hx':A8 r hs with
            | none => exact absurd hx' hne'
            | some o' => obtain ⟨o0, e0⟩ := sub.in_h hx'; rw [e0]; simp
        · exact .inl hx
      · have hne:m≠q := fun e => hq (e ▸ hmn)
        rw [A6 _ _ hne]
        exact fb.dm q hq hn
      · rcases AE hy with ⟨rfl, _⟩ | ⟨_, hy⟩
        · omega
        · have := gb.dom q y hy; omega
      · rcases AE hy with ⟨rfl, e⟩ | ⟨_, hy⟩
        · cases e; exact hoblk
        · exact gb.blk q b s t hy
      · rcases AE hy with ⟨rfl, e⟩ | ⟨hne, hy⟩
        · cases e
          rw [A7] at hq; cases hq
          refine Ln (φ1 := φ') (fun q y hq hy => ?_) hOld (hcl (g1.obj p' obr _ _ _ hob' hφ'))
          rw [Hh fun e => by subst e; omega]
          exact back q y hq hy
        · rw [A6 _ _ hne] at hq
          exact Eo (D8 hmn) (gb.obj q oq b s t hq hy)
      · rcases AE hx with ⟨rfl, e⟩ | ⟨hq', hx⟩
        · cases e
          rcases AE hy with ⟨e, _⟩ | ⟨hr', hy⟩
          · exact absurd e hne
          · rw [A6 _ _ hr'] at hr
            exact (apart r or hr s2 t2 hy).elim
        · rw [A6 _ _ hq'] at hq
          rcases AE hy with ⟨rfl, e⟩ | ⟨hr', hy⟩
          · cases e
            exact (apart q oq hq s t hx).elim
          · rw [A6 _ _ hr'] at hr
            exact gb.sep q r oq or b s t s2 t2 hne hq hr hx hy
      · rcases AE hx with ⟨rfl, e⟩ | ⟨hq', hx⟩
        · rw [A7] at hq; cases hq
          rw [hOld.prev] at hpr; cases hpr
        · rw [A6 _ _ hq'] at hq
          rcases AE hy with ⟨rfl, e⟩ | ⟨hr', hy⟩
          · cases e
            exact (apart q oq hq s t hx).elim
          · rw [A6 _ _ hr'] at hr
            exact gb.sup q r oq or b s t s2 t2 hq hpr hr hx hy
      · rw [gx]
        simp only [Av]
        exact ⟨b', s', tot', o, cap', Ca _ _ _, rfl, c1, c2, c3, c4⟩
end
/-- A CALL WHOSE WAYS ARE LAID TOGETHER IS SOUND. -/
theorem Yp {f:FuncId} {run:Heap->R} {k:Nat} {args:List V} {h:Heap} {n:K4} {v:V} {h1:Heap} {n1:K4} (hr:brK k run args h n = .rv v h1 n1) {φ:AS} {w:World} {xs:Array Value} (g:Gam ρ B h n φ w) (hxs:BP ρ φ args xs.toList)
    (H:∀ (hs:Heap) (Φ:R->Prop), (run hs).sat Φ->Gam ρ B hs n φ w->Ow P f xs w fun x w' => ∃ v h1 n1 φ', Φ (.rv v h1 n1)∧Fr hs h1 φ φ' n n1 w w'∧Gam ρ B h1 n1 φ' w'∧Av ρ φ' v x) :
    Ow P f xs w fun x w' => ∃ φ', Fr h h1 φ φ' n n1 w w'∧Gam ρ B h1 n1 φ' w'∧Av ρ φ' v x := by
  unfold brK at hr
  obtain ⟨hs, acc, sub, e1⟩ := Gb k (todo := Yo args []) (κ := fun hs acc => Z9 n h acc (run hs)) (Sub.nil (h := h))
  rw [e1] at hr
  unfold Z9 at hr
  obtain ⟨v1, hh1, e2⟩ := JE (by rw [hr]; trivial)
  rw [e2] at hr
  obtain ⟨m, hm, sat, e3⟩ := Js (by rw [hr]; trivial)
  rw [e3] at hr
  obtain ⟨hf, put, e4⟩ := Lh (by rw [hr]; trivial)
  rw [e4] at hr
  have gs:Gam ρ B hs n φ w := by
    refine ⟨g.base, g.dom, g.blk, fun p o b s tot hp hx => ?_, fun p q o o' b s tot s' tot' hne hp hq hx hy => ?_, fun p q o o' b s tot s' tot' hp hpr hq hx hy => ?_, g.glob⟩
    · obtain ⟨o0, e0, rfl, _⟩ := sub.sub p o hp
      exact Xb (g.obj p o0 b s tot e0 hx)
    · exfalso
      obtain ⟨o0, e0, _, g0, _⟩ := sub.sub p o hp
      obtain ⟨o1, e1, _, g1, _⟩ := sub.sub q o' hq
      have no:∀ (ob:Ob), HX ob=true->JU ob=true->False := fun ob h1 h2 => by
        cases ob with
        | c cs sup prev =>
          cases sup with
          | true => cases h1
          | false => cases h2
        | _ => cases h2
      rcases g.sep p q o0 o1 b s tot s' tot' hne e0 e1 hx hy with h | h
      · exact no o1 g1 (g.sup p q o0 o1 b s tot s' tot' e0 h e1 hx hy)
      · exact no o0 g0 (g.sup q p o1 o0 b s' tot' s tot e1 h e0 hy hx)
    · obtain ⟨o0, e0, rfl, _⟩ := sub.sub p o hp
      rw [SB] at hpr; cases hpr
  intro o a K Q hK
  refine H hs _ sat gs o a K Q fun x w' ⟨v', h', n', φ', way, f1, g1, r1⟩ => hK x w' ?_
  exact Zj sub put g f1 g1 r1 way hm hr
end
end Go.Ev

namespace Go.Ev
set_option linter.unusedVariables false
open Go.RowKit
/-- One round: the parameter, then the body. -/
abbrev rdK (pb px:K2) (al bl:List AOp) (cf:E8) (b x:V) (h:Heap) (n:K4):R :=
  Dx [] cf al [(px, x), (pb, b)] Fd h n fun env t h n => Dx [] cf bl env t h n fun _ _ h n => .rv (.bool true) h n
abbrev Rd := E8->V->V->Heap->K4->R
def Oq (l:List Oper):Bool := l.all fun o => match o.op with | .defer _ => false | _ => true
theorem JD {l:List Oper} (h:Oq l=true):∀ o∈l, ∀ c, o.op ≠ .defer c := fun o ho c e => by
  have := List.all_eq_true.1 h o ho
  rw [e] at this; cases this
def Rx:Code->Option (Array Oper)
  | .region _ ops false => some ops
  | _ => none
def Wf:Code->Option (Array Oper)
  | .block _ c => Rx c
  | _ => none
/-- The round's text, and whether it is one. -/
def Vg (P:Program) (A:ApC):Option Rd :=
  match Rx A.asg, Wf A.bod, K2.ofN A.par, K2.ofN A.box with
  | some oa, some ob, some px, some pb => match HH P A.ntm oa oa.toList, HH P A.ntm ob ob.toList with
    | some al, some bl => if GG [] al [px, pb]&&(GG [] bl (CZ al [px, pb])&&(Oq oa.toList&&(Oq ob.toList&&(Nat.blt A.par A.ntm&&(Nat.blt A.box A.ntm && !(A.par == A.box)))))) then some (rdK pb px al bl) else none
    | _, _ => none
  | _, _, _, _ => none
theorem LI {c:Code} {ops:Array Oper} (h:Rx c=some ops):∃ i, c = .region i ops false := by
  unfold Rx at h
  split at h
  · cases h; exact ⟨_, rfl⟩
  · cases h
theorem QO {c:Code} {ops:Array Oper} (h:Wf c=some ops):∃ i j, c = .block i (.region j ops false) := by
  unfold Wf at h
  split at h
  · obtain ⟨j, rfl⟩ := LI h; exact ⟨_, j, rfl⟩
  · cases h
/-- The function. -/
def LP (P:Program) (f:FuncId):Option ApC :=
  match P.funcs[f]? with
  | some fn => match fn.body with
    | some (.seq (.region _ r0 false) (.seq (.seq (.region _ r1 false) (.block _ (.rangeFunc (.tmp s6) ps asg bod))) (.seq (.region _ r4 false) .ret))) =>
      match r0.toList, r1.toList, r4.toList, ps.toList, fn.results.toList with
      | [o1, o2], [o3], [o4, o5], [par], [.tmp s4] => match o1.op, o2.op, o3.op, o4.op, o5.op with
        | .box _ (.tmp s0), .assign (.const c2), .move (.tmp s1), .load tL (.tmp s2), .assign (.tmp s12) =>
          if (fn.name == "runtime.NumGoroutine")=false∧fn.ntmps=13∧s6=6∧s4=4∧s0=0∧s1=1∧s2=2∧s12=12∧o1.dst=some 2∧o2.dst=some 4∧o3.dst=some 6∧o4.dst=some 12∧o5.dst=some 4 ∧
            o1.guard=none∧o2.guard=none∧o3.guard=none∧o4.guard=none∧o5.guard=none∧KU P tL=some false then some ⟨asg, bod, par, 2, 13⟩ else none
        | _, _, _, _, _ => none
      | _, _, _, _, _ => none
    | _ => none
  | none => none
def JW (l:List V) (κ:V->List V->R):R := @List.rec V (fun _ => R) (.fail "") (fun x xs _ => κ x xs) l
def Ss (l:List V) (κ:R):R := @List.rec V (fun _ => R) κ (C8 "") l
def QP (v:V) (κ:R):R :=
  @V.rec (fun _ => R) (fun _ => Unit) (AB "") (AT "") (AB "") (DZ "") (AB "") (AB "")
    (fun u => @Nl.rec (fun _ => R) (.fail "") κ (.fail "") (.fail "") (.fail "") u) (AT "") (C8 "") (AB "") (AT "") () (fun _ _ _ _ => ()) v
def Uz (v:V) (κ:Nat->List V->R):R :=
  @V.rec (fun _ => R) (fun _ => Unit) (AB "") (AT "") (AB "") (DZ "") (AB "") (AB "") (AT "") (AT "")
    (fun f caps _ => κ f caps) (AB "") (AT "") () (fun _ _ _ _ => ()) v
def WY (o:Ck) (κ:R):R := @Option.rec Ob (fun _ => R) (.fail "") (fun o => @Ob.rec (fun _ => R) (C8 "") (C8 "") (Ff "") (.fail "") (fun _ _ => κ) o) o
def HO (g:Nat) (l:List Nat) (κ:R):R := @List.rec Nat (fun _ => R) (.fail "") (fun x _ ih => br (Nat.beq x g) κ ih) l
def YV (f:Nat) (its:List Nat) (cf:E8) (args:List V) (h:Heap) (n:K4):R :=
  JW args fun v l => JW l fun s l => Ss l (QP v (Uz s fun g caps => HO g its
    (BQ n h (some (.c (.l [.nil .sl]) false none)) fun h => n.nx fun n1 => BQ n1 h (some (.lp f n)) fun h => n1.nx fun n2 =>
      D0 (cf (B2 g) (.oth (.yl n1)::caps) h n2) fun _ h m =>
        Bz n1 h fun o => WY o (Kc n h fun cs _ _ => EV cs 0 fun sv => BQ n h none fun h => BQ n1 h none fun h => .rv sv h m))))
section
variable {P:Program} {ρ:Env} {B:Nat} {h:Heap} {n:K4}
/-- No object tells of a block. -/
def Xv (φ:AS) (h:Heap) (l:Nat):Prop := ∀ q s tot, φ q=some (l, s, tot)->A8 q h=none
theorem Xv.step {φ φ1:AS} {h1:Heap} {n1:K4} {w w1:World} {l:Nat} (u:Xv φ h l) (hl:l<w.heap.size) (f:Fr h h1 φ φ1 n n1 w w1):Xv φ1 h1 l := fun q s tot hq => by
  rcases f.fresh q l s tot hq with e | e | ⟨r, s', tot', hr, hne⟩
  · exact f.dm q (by rw [e]; simp) (u q s tot e)
  · omega
  · exact absurd (u r s' tot' hr) hne
theorem Gam.poke {φ:AS} {w:World} (g:Gam ρ B h n φ w) {l:Nat} (u:Xv φ h l) (O:Obj) (hno:∀ c e fr, w.heap[l]? ≠ some (.cells c e fr)):Gam ρ B h n φ (w.putObj l O) where
  glob := fun k c e fr hk => ⟨(g.glob k c e fr hk).1, by rw [World.putObj_heap_other (fun e' => by subst e'; exact hno _ _ _ (g.glob _ c e fr hk).2)]; exact (g.glob k c e fr hk).2⟩
  base := by rw [World.putObj_size]; exact g.base
  dom := g.dom
  blk := fun p b s t hp => by rw [World.putObj_size]; exact g.blk p b s t hp
  obj := fun p o b s t hp hφ => by
    refine Cr (World.putObj_heap_other fun e => ?_) (g.obj p o b s t hp hφ)
    subst e
    rw [u p s t hφ] at hp; cases hp
  sep := g.sep
  sup := g.sup
/-- A block is other for a while. -/
theorem Fr.around {h1:Heap} {n1:K4} {φ φ1:AS} {w W:World} {l:Nat} {O O0:Obj} (hl:w.heap[l]? = some O0) (f:Fr h h1 φ φ1 n n1 (w.putObj l O) W):Fr h h1 φ φ1 n n1 w (W.putObj l O0) := by
  have hlt:l<w.heap.size := by
    rcases Nat.lt_or_ge l w.heap.size with e | e
    · exact e
    · rw [Array.getElem?_eq_none e] at hl; cases hl
  have hs := f.size
  rw [World.putObj_size] at hs
  refine ⟨f.ext, f.new, f.nn, f.os, f.tape, f.out, by rw [World.putObj_size]; exact hs, fun b hb hn => ?_, fun q b s t hq => ?_, f.dm⟩
  · by_cases e:b=l
    · subst e; rw [World.putObj_heap_same (by omega), hl]
    · rw [World.putObj_heap_other e, f.old b (by rw [World.putObj_size]; exact hb) hn, World.putObj_heap_other e]
  · have := f.fresh q b s t hq
    rwa [World.putObj_size] at this
/-- A new block is other behind. -/
theorem Fr.poke {h1:Heap} {n1:K4} {φ φ1:AS} {w W:World} {l:Nat} (O:Obj) (hl:w.heap.size≤l) (f:Fr h h1 φ φ1 n n1 w W):Fr h h1 φ φ1 n n1 w (W.putObj l O) :=
  ⟨f.ext, f.new, f.nn, f.os, f.tape, f.out, by rw [World.putObj_size]; exact f.size, fun b hb hn => by rw [World.putObj_heap_other (by omega)]; exact f.old b hb hn, f.fresh, f.dm⟩
def WA:Regs := Regs.all (VP.all (.oth .any))
theorem Su (p:K2):Bx p WA = .oth .any := by simp only [Bx, WA, Regs.sel_all, VP.sel_all]
/-- The round is sound. -/
theorem ZH (hρ:BK ρ) {cf:CF} {cf2:E8} (hcf:Ei P ρ B cf) (h2:∀ f, cf2 (B2 f)=cf f) {A:ApC} {rd:Rd} (hrd:Vg P A=some rd) {fn:FuncId} {box:K4} {x:V} {Φ:R->Prop}
    (hs:(rd cf2 (.ptr box 0) x h n).sat Φ) {φ:AS} {w:World} {tmps:Array Value} {X:Value} {l D:Nat} (g:Gam ρ B h n φ w) (hl:w.heap[l]? = some (.loop (FN A fn tmps D))) (u:Xv φ h l)
    (hsz:tmps.size=A.ntm) (hbox:Av ρ φ (.ptr box 0) (tmps.getD A.box undef)) (hX:Av ρ φ x X) :
    RoundIn Fence.wide 0 P l fn (tmps.setIfInBounds A.par X) A.asg A.bod w fun e w' => e = .returned (.bool true) ∧
      ∃ v h1 n1 φ', v = .bool true∧Φ (.rv v h1 n1)∧Fr h h1 φ φ' n n1 w w'∧Gam ρ B h1 n1 φ' w' := by
  unfold Vg at hrd
  split at hrd
  · rename_i oa ob px pb ha hb hpx hpb
    split at hrd
    · rename_i al bl hal hbl
      split at hrd
      · rename_i hok
        cases hrd
        simp only [Bool.and_eq_true, Nat.blt_eq] at hok
        obtain ⟨ok1, ok2, nd1, nd2, lt1, lt2, hne⟩ := hok
        have hne:A.par≠A.box := by simpa using hne
        obtain ⟨i, hasg⟩ := LI ha
        obtain ⟨j, k, hbod⟩ := QO hb
        have hlt:l<w.heap.size := by
          rcases Nat.lt_or_ge l w.heap.size with e | e
          · exact e
          · rw [Array.getElem?_eq_none e] at hl; cases hl
        have hpp:px≠pb := fun e => hne (K2.ofN_inj hpx (e ▸ hpb))
        have ri:RI [] [px, pb] [(px, x), (pb, .ptr box 0)] (EN px (EN pb WA (.ptr box 0)) x) Fd := by
          refine ⟨fun h => (by cases h), fun p v hp => ?_, fun p hp => ?_, fun p s h => (by cases h)⟩
          · by_cases e:px=p
            · subst e; rw [DO] at hp; cases hp; exact B6 _ _ _
            · rw [Ge e] at hp
              rw [BN _ _ e]
              by_cases e':pb=p
              · subst e'; rw [DO] at hp; cases hp; exact B6 _ _ _
              · rw [Ge e'] at hp; simp [FE] at hp
          · by_cases e:px=p
            · subst e; exact ⟨x, DO⟩
            · rw [Ge e]
              by_cases e':pb=p
              · subst e'; exact ⟨_, DO⟩
              · simp at hp; rcases hp with hp | hp
                · exact absurd hp.symm e
                · exact absurd hp.symm e'
        have hT:TR ρ A.ntm φ (EN px (EN pb WA (.ptr box 0)) x) { tmps := tmps.setIfInBounds A.par X, defers := [] } := {
          size := by simp [hsz]
          defers := rfl
          at_ := fun s p hs hp => by
            show Av ρ φ _ ((tmps.setIfInBounds A.par X).getD s undef)
            by_cases e:A.par=s
            · subst e
              rw [hpx] at hp; cases hp
              rw [B6, Array.getD_eq_getD_getElem?, Array.getElem?_setIfInBounds_self_of_lt (by omega)]
              exact hX
            · rw [BN _ _ (fun e' => e (K2.ofN_inj hpx (by rw [e']; exact hp))), Array.getD_eq_getD_getElem?, Array.getElem?_setIfInBounds_ne e, ←Array.getD_eq_getD_getElem?]
              by_cases e2:A.box=s
              · subst e2
                rw [hpb] at hp; cases hp
                rw [B6]; exact hbox
              · rw [BN _ _ (fun e' => e2 (K2.ofN_inj hpb (by rw [e']; exact hp))), Su]
                simp only [Av] }
        have hs:(Dx [] cf2 al [(px, x), (pb, .ptr box 0)] Fd h n fun env t h n => Dx [] cf2 bl env t h n fun _ _ h n => .rv (.bool true) h n).sat Φ := hs
        obtain ⟨env1, t1, t1', h1, n1, e1, ri1, H1⟩ := DQ (B := B) (ops := oa) hρ hcf h2 hal ok1 ri (R.sat_good hs)
        rw [e1] at hs
        obtain ⟨env2, t2, t2', h2', n2, e2, ri2, H2⟩ := DQ (B := B) (ops := ob) hρ hcf h2 hbl ok2 ri1 (R.sat_good hs)
        rw [e2] at hs
        have hs:Φ (.rv (.bool true) h2' n2) := hs
        refine roundIn_of_wpIn trivial ?_
        rw [hasg, hbod]
        have c1 := En (l := some l) (n := 0) (r := []) (.inr (JD nd1)) (H1 φ _ w hT g (Exit.then (fun a₁ w₁ => ∃ w₂, (Instr.beginRound l).run P w₁ = .ok () w₂∧(Code.block j (.region k ob false)).wpIn (Fence.wide.inRound l) 0 P (roundPost P l (fun e w' => e = .returned (.bool true) ∧
            ∃ v h1 n1 φ', v = .bool true∧Φ (.rv v h1 n1)∧Fr h h1 φ φ' n n1 w w'∧Gam ρ B h1 n1 φ' w')) a₁ w₂) (fun _ _ _ => False)) (wpListIn (Nq (some l)) 0 P oa _ []) fun φ1 a1 w1 f1 g1 T1 => wpListIn_nil (F := Nq (some l)) ?_)
        · rw [List.append_nil] at c1
          exact wpIn_region_list c1
        · have u1 := u.step hlt f1
          have hl1:w1.heap[l]? = some (.loop (FN A fn tmps D)) := (f1.old l hlt u).trans hl
          refine ⟨_, run_beginRound hl1 rfl, wpIn_block (wpIn_region_list ?_)⟩
          have g1' := g1.poke u1 (.loop { FN A fn tmps D with state := .busy }) (fun c e fr h => by rw [hl1] at h; cases h)
          have c2 := En (l := some l) (n := 0) (r := []) (.inr (JD nd2)) (H2 φ1 a1 _ T1 g1' (Exit.inBlock j (roundPost P l (fun e w' => e = .returned (.bool true) ∧
            ∃ v h1 n1 φ', v = .bool true∧Φ (.rv v h1 n1)∧Fr h h1 φ φ' n n1 w w'∧Gam ρ B h1 n1 φ' w'))) (wpListIn (Nq (some l)) 0 P ob _ []) fun φ2 a2 w2 f2 g2 T2 => wpListIn_nil (F := Nq (some l)) ?_)
          · rw [List.append_nil] at c2; exact c2
          · have hlt1:l<(w1.putObj l (.loop { FN A fn tmps D with state := .busy })).heap.size := by rw [World.putObj_size]; have := f1.size; omega
            have u2 := u1.step hlt1 f2
            have hl2:w2.heap[l]? = some (.loop { FN A fn tmps D with state := .busy }) := (f2.old l hlt1 u1).trans (World.putObj_heap_same (by rwa [World.putObj_size] at hlt1))
            exact ⟨_, _, run_endRound none hl2, rfl, _, h2', n2, φ2, rfl, hs, Fr.trans f1 (f2.around hl1), g2.poke u2 _ (fun c e fr h => by rw [hl2] at h; cases h)⟩
      · cases hrd
    · cases hrd
  · cases hrd
/-- It has a body. -/
def Kn (P:Program) (g:FuncId):Prop := ∃ fn c, P.funcs[g]? = some fn∧fn.body=some c∧(fn.name == "runtime.NumGoroutine")=false
theorem IZ {l:List V} {κ:V->List V->R} (hg:(JW l κ).good):∃ x xs, l=x::xs∧JW l κ=κ x xs := by
  cases l with
  | nil => exact hg.elim
  | cons x xs => exact ⟨x, xs, rfl, rfl⟩
theorem Pi {l:List V} {κ:R} (hg:(Ss l κ).good):l=[]∧Ss l κ=κ := by
  cases l with
  | nil => exact ⟨rfl, rfl⟩
  | cons x xs => exact hg.elim
theorem OW {v:V} {κ:R} (hg:(QP v κ).good):v = .nil .sl∧QP v κ=κ := by
  cases v with
  | nil u => cases u with
    | sl => exact ⟨rfl, rfl⟩
    | _ => exact hg.elim
  | _ => exact hg.elim
theorem Qu {v:V} {κ:Nat->List V->R} (hg:(Uz v κ).good):∃ f l, v = .fn f l∧Uz v κ=κ f l := by
  cases v with
  | fn f l => exact ⟨f, l, rfl, rfl⟩
  | _ => exact hg.elim
theorem UJ {o:Ck} {κ:R} (hg:(WY o κ).good):(∃ f b, o=some (.lp f b))∧WY o κ=κ := by
  cases o with
  | none => exact hg.elim
  | some ob => cases ob with
    | lp f b => exact ⟨⟨f, b, rfl⟩, rfl⟩
    | _ => exact hg.elim
theorem Ld {g:Nat}:∀ {l:List Nat} {κ:R}, (HO g l κ).good->g∈l∧HO g l κ=κ
  | [], κ, hg => hg.elim
  | x::l, κ, hg => by
    have hg:R.good (br (Nat.beq x g) κ (HO g l κ)) := hg
    show _∧br (Nat.beq x g) κ (HO g l κ)=κ
    cases hb:Nat.beq x g with
    | true => exact ⟨by rw [Nat.eq_of_beq_eq_true hb]; exact List.mem_cons_self .., rfl⟩
    | false =>
      rw [hb] at hg
      obtain ⟨h1, h2⟩ := Ld (show R.good (HO g l κ) from hg)
      exact ⟨List.mem_cons_of_mem _ h1, h2⟩
theorem C3 {o:Oper} {a:Act} {w w':World} {x:Value} {K:Act->World->Prop} {Q:Exit->Act->World->Prop} (hr:(execOp a.eval o).run P w = .ok (.value x) w') (hK:K (a.put o.dst x) w'):o.wpIn Fence.wide 0 P a w K Q :=
  Rh (l := none) (.inl rfl) (fun _ _ h => h) (show o.wp P a w K Q by unfold Oper.wp; rw [hr]; exact hK)
/-- The function is sound. -/
theorem Aaf {f:FuncId} {its:List Nat} {A:ApC} (hA:ρ.ap f=some A) (hsh:LP P f=some A) (hits:∀ g∈its, Kn P g) {cf:CF} {cf2:E8} (hcf:IJ P ρ B cf) (h2:∀ f, cf2 (B2 f)=cf f) {args:List V} {Φ:R->Prop}
    (hr:(YV f its cf2 args h n).sat Φ) {φ:AS} {w:World} {xs:Array Value} (g:Gam ρ B h n φ w) (hxs:BP ρ φ args xs.toList) :
    Ow P f xs w fun x w' => ∃ v h1 n1 φ', Φ (.rv v h1 n1)∧Fr h h1 φ φ' n n1 w w'∧Gam ρ B h1 n1 φ' w'∧Av ρ φ' v x := by
  unfold LP at hsh
  split at hsh
  next fn hfn =>
    split at hsh
    next i0 r0 i1 r1 b0 s6 ps asg bod i4 r4 hbody =>
      split at hsh
      next o1 o2 o3 o4 o5 par s4 e0 e1 e4 eps ers =>
        split at hsh
        next tS s0 c2 s1 tL s2 s12 p1 p2 p3 p4 p5 =>
          split at hsh
          next hc =>
            obtain ⟨hname, hnt, rfl, rfl, rfl, rfl, rfl, rfl, d1, d2, d3, d4, d5, g1, g2, g3, g4, g5, hagg⟩ := hc
            cases hsh
            have hname:(fn.name == "runtime.NumGoroutine")=false := hname
            -- the arguments
            unfold YV at hr
            obtain ⟨v, l, rfl, q1⟩ := IZ (R.sat_good hr)
            rw [q1] at hr
            obtain ⟨s, l, rfl, q2⟩ := IZ (R.sat_good hr)
            rw [q2] at hr
            obtain ⟨rfl, q3⟩ := Pi (R.sat_good hr)
            rw [q3] at hr
            obtain ⟨rfl, q4⟩ := OW (R.sat_good hr)
            rw [q4] at hr
            obtain ⟨it, caps, rfl, q5⟩ := Qu (R.sat_good hr)
            rw [q5] at hr
            obtain ⟨hmem, q6⟩ := Ld (R.sat_good hr)
            rw [q6, BR, AR] at hr
            rcases K4.nx_eq n _ with ⟨m, e⟩ | ⟨n1, hn1, e⟩
            · rw [e] at hr; exact hr.elim
            rw [e, BR, AR] at hr
            rcases K4.nx_eq n1 _ with ⟨m, e⟩ | ⟨n2, hn2, e'⟩
            · rw [e] at hr; exact hr.elim
            rw [e'] at hr
            have hr := Ek hr
            rw [h2] at hr
            obtain ⟨X0, l0, hx0, r0', hl0⟩ := Ax.1 hxs
            obtain ⟨X1, l1, rfl, r1', hl1⟩ := Ax.1 hl0
            have hl1 := AA.1 hl1
            subst hl1
            have hX0 := C9 r0'
            obtain ⟨cs, hX1, rcs⟩ := J8 r1'
            have hps:ps = #[par] := by cases ps; simp at eps; rw [eps]
            have hres:fn.results = #[.tmp 4] := by cases hh:fn.results with | mk l => rw [hh] at ers; simp at ers; rw [ers]
            -- the box
            obtain ⟨ga, fa⟩ := CN g (n' := n1) hn1 (e := tS) (fr := (0, 0)) (c := #[X0]) (cs := .l [.nil .sl]) (by simp [Cs.len]) (K0 _)
              (by have := Ec (ρ := ρ) (φ := φ) (l := [.nil .sl]) (xs := [X0]) (Ax.2 ⟨X0, [], rfl, r0', AA.2 rfl⟩) (by simp [hX0, Ci, Value.oneCell']); simpa using this)
            generalize hW0:w.alloc (.cells #[X0] tS (0, 0))=W0 at ga fa
            have hb0:W0.heap[w.heap.size]? = some (.cells #[X0] tS (0, 0)) := by rw [←hW0]; exact World.alloc_heap_new w _
            have gb := ga.push (.deferred (some []))
            have fb := Fr.trans fa (Fr.push (h := Ac n h (some (.c (.l [.nil .sl]) false none))) (n := n1) (φ := EC φ n (w.heap.size, 0, (#[X0]:Array Value).size)) (.deferred (some [])))
            have hs0:W0.heap.size=w.heap.size+1 := by rw [←hW0, World.size_alloc]
            generalize htm:((((#[X0, X1]:Array Value)++Array.replicate (fn.ntmps - 2) undef).setIfInBounds 2 (.pointer (some ⟨w.heap.size, 0, none⟩))).setIfInBounds 4 c2).setIfInBounds 6 X1=tm
            have htsz:tm.size=13 := by rw [←htm, hnt]; simp
            have ht2:tm.getD 2 undef = .pointer (some ⟨w.heap.size, 0, none⟩) := by rw [←htm, hnt]; simp [Array.getD_eq_getD_getElem?]
            have ht6:tm.getD 6 undef=X1 := by rw [←htm, hnt]; simp [Array.getD_eq_getD_getElem?]
            intro o a K Q hK
            have hcf':(callFunc f #[X0, X1]).run P w = .ok (.enter f #[X0, X1]) w := by
              have hname':fn.name ≠ "runtime.NumGoroutine" := by simpa using hname
              simp [callFunc, hfn, hname', hbody]
            have hxe:xs = #[X0, X1] := by cases xs; simp at hx0; rw [hx0]
            rw [hxe, hcf']
            refine (callsIn_wide (n := 0)).1 (callsIn_of_wp_marks hfn hbody trivial ?_ rfl)
            have ev0:Act.eval { tmps := (#[X0, X1]:Array Value)++Array.replicate (fn.ntmps - (#[X0, X1]:Array Value).size) undef, defers := [] } (.tmp 0)=X0 := by
              simp [Act.eval, Array.getD_eq_getD_getElem?, Array.getElem?_append]
            have hcl:X0.cells = #[X0] := by rw [hX0]; rfl
            refine wpIn_seq (wpIn_region_list ?_)
            rw [e0]
            refine wpListIn_plain g1 fun K1 hK1 => C3 (x := .pointer (some ⟨w.heap.size, 0, none⟩)) (w' := W0) (by rw [←hW0]; simp only [execOp, p1, ev0]; simp [Instr.box, newVar, Fm, hcl]) (hK1 _ _ ?_)
            refine wpListIn_plain g2 fun K2 hK2 => C3 (x := c2) (w' := W0) (by simp [execOp, p2, Act.eval]) (hK2 _ _ ?_)
            refine wpListIn_nil ?_
            refine wpIn_seq (wpIn_seq (wpIn_region_list ?_))
            rw [e1]
            refine wpListIn_plain g3 fun K3 hK3 => C3 (x := X1) (w' := W0) (by simp only [execOp, p3, Act.eval, Act.put, d1, d2, hnt]; simp [Array.getD_eq_getD_getElem?, Array.getElem?_setIfInBounds]) (hK3 _ _ ?_)
            refine wpListIn_nil ?_
            refine wpIn_block (wpIn_rangeFunc fun fn' _ => ?_)
            have hact:((({ tmps := (#[X0, X1]:Array Value)++Array.replicate (fn.ntmps - (#[X0, X1]:Array Value).size) undef, defers := [] }:Act).put o1.dst (.pointer (some ⟨w.heap.size, 0, none⟩))).put o2.dst c2).put o3.dst X1={ tmps := tm, defers := [] } := by
              rw [d1, d2, d3, ←htm]; rfl
            rw [hact]
            generalize hWb:W0.alloc (.deferred (some []))=Wb at gb fb
            have hsb:Wb.heap.size=w.heap.size+2 := by rw [←hWb, World.size_alloc, hs0]
            have hDb:Wb.heap[w.heap.size+1]? = some (.deferred (some [])) := by rw [←hWb, ←hs0]; exact World.alloc_heap_new _ _
            have hn1':EC φ n (w.heap.size, 0, (#[X0]:Array Value).size) n1=none := gb.at_n
            have gc := gb.alloc (p := n1) (n' := n2) hn1' (by omega) (by omega) (.lp f n) rfl (.loop (FN ⟨asg, bod, par, 2, 13⟩ fn' tm W0.heap.size)) 0
              (fun φ' hle w' hw' => ⟨rfl, ⟨asg, bod, par, 2, 13⟩, fn', tm, W0.heap.size, hA, hw', htsz, by rw [ht2]; exact F7 hle Dk⟩)
            have fc := Fr.trans fb (Fr.alloc (h := Ac n h (some (.c (.l [.nil .sl]) false none))) (w := Wb) (n := n1) (n' := n2) (p := n1) hn1' (by omega) (Nat.le_refl _) (by omega) (some (.lp f n)) (.loop (FN ⟨asg, bod, par, 2, 13⟩ fn' tm W0.heap.size)) 0)
            generalize hWc:Wb.alloc (.loop (FN ⟨asg, bod, par, 2, 13⟩ fn' tm W0.heap.size))=Wc at gc fc
            have hsc:Wc.heap.size=w.heap.size+3 := by rw [←hWc, World.size_alloc, hsb]
            have hDc:Wc.heap[w.heap.size+1]? = some (.deferred (some [])) := by rw [←hWc, Below.heap_alloc _ _ _ (by omega)]; exact hDb
            have hφn:φ n=none := g.at_n
            have hφn1:φ n1=none := by
              cases hx:φ n1 with
              | none => rfl
              | some x => have := g.dom n1 x hx; omega
            generalize hφc:EC (EC φ n (w.heap.size, 0, (#[X0]:Array Value).size)) n1 (Wb.heap.size, 0, 0)=φc at gc fc
            have hcn1:φc n1=some (w.heap.size+2, 0, 0) := by rw [←hφc, Ca, hsb]
            have hnn:n1≠n := fun e => by rw [e] at hn1; omega
            have hcn:φc n=some (w.heap.size, 0, 1) := by rw [←hφc, Hh hnn, Ca]; rfl
            have huD:Xv φc (Ac n1 (Ac n h (some (.c (.l [.nil .sl]) false none))) (some (.lp f n))) (w.heap.size+1) := fun q s tot hq => by
              rw [←hφc] at hq
              rcases AE hq with ⟨_, e⟩ | ⟨_, hq⟩
              · simp only [Prod.mk.injEq] at e; omega
              · rcases AE hq with ⟨_, e⟩ | ⟨_, hq⟩
                · simp only [Prod.mk.injEq] at e; omega
                · have := (g.blk q _ _ _ hq).2; omega
            obtain ⟨fng, cg, hg1, hg2, hg3⟩ := hits it hmem
            have call := HQ hg1 hg2 (by simpa using hg3) (hcf it _ _ n2 _ hr φc Wc (#[.func (.yield (w.heap.size+2)) #[] #[]]++cs) gc (by
              rw [Array.toList_append]
              exact Ax.2 ⟨_, cs.toList, rfl, by simp only [Av]; exact ⟨_, _, _, hcn1, rfl⟩, by rw [←hφc]; exact Gc (AS.le_trans (D8 hφn) (D8 hn1')) rcs⟩))
            refine ⟨w.heap.size+2, [{ target := .collected (w.heap.size+1), args := #[] }], Wc, { target := .fn (.func it) cs, args := #[.func (.yield (w.heap.size+2)) #[] #[]] }, Wc, it, #[.func (.yield (w.heap.size+2)) #[] #[]]++cs, Wc, ?_, ?_, ?_, ?_, fun h => (by cases h), ?_⟩
            · have := run_enterLoop_outer (P := P) (w := W0) fn' tm ps asg bod
              rw [hs0] at this
              show (Instr.enterLoop fn' tm ps asg bod none).run P W0=_
              rw [this, hWb, hps, ←hWc, hs0]; rfl
            · have e6:Act.eval { tmps := tm, defers := [] } (.tmp 6) = .func (.func it) #[] cs := by show tm.getD 6 undef=_; rw [ht6, hX1]
              simp only [resolve, rangeCall, e6, Deferred.ofValue]
              simp [Act.eval]
            · intro _ _; trivial
            · simp [invoke, callFunc, hg1, hg2, show fng.name ≠ "runtime.NumGoroutine" by simpa using hg3]
            · refine (callsIn_wide (n := 0)).2 (call.mono fun e w3 he => ?_)
              cases e with
              | panicked c => exact he.elim
              | outgrown => exact he.elim
              | returned u =>
              obtain ⟨v, h3, n3, φ3, hΦ, f3, g3', _⟩:∃ v h1 n1 φ', XF _ Φ (.rv v h1 n1)∧Fr _ h1 φc φ' n2 n1 Wc w3∧Gam ρ B h1 n1 φ' w3∧Av ρ φ' v u := he
              have hΦ:(Bz n1 h3 fun o => WY o (Kc n h3 fun cs _ _ => EV cs 0 fun sv => BQ n h3 none fun h => BQ n1 h none fun h => .rv sv h n3)).sat Φ := hΦ
              rw [BH] at hΦ
              obtain ⟨⟨f', b', hlp⟩, q7⟩ := UJ (R.sat_good hΦ)
              rw [q7, DL] at hΦ
              obtain ⟨cs3, sup3, prev3, hbx, q8⟩ := Di (R.sat_good hΦ)
              rw [q8] at hΦ
              obtain ⟨sv, hsv, q9⟩ := Hp (R.sat_good hΦ)
              rw [q9, BR, AR, BR, AR] at hΦ
              have hΦ:Φ (.rv sv (Ac n1 (Ac n h3 none) none) n3) := hΦ
              have h3n := f3.ext _ _ hcn
              have h3n1 := f3.ext _ _ hcn1
              obtain ⟨_, A3, fn3, tm3, D3, _, hrec, _, _⟩ := g3'.obj n1 _ _ _ _ hlp h3n1
              obtain ⟨c3, e3, fr3, k1, k2, k3, k4, k5⟩ := g3'.obj n _ _ _ _ hbx h3n
              obtain ⟨SV, hSV, rSV, _⟩ := k5 0 sv hsv
              have hD3:w3.heap[w.heap.size+1]? = some (.deferred (some [])) := (f3.old _ (by omega) huD).trans hDc
              have uD3 := huD.step (by omega) f3
              have ul3:Xv φ3 (Ac n1 (Ac n h3 none) none) (w.heap.size+2) := fun q s tot hq => by
                by_cases e:n1=q
                · subst e; exact A7 _ _ _
                · rw [A6 _ _ e]
                  by_cases e':n=q
                  · subst e'; exact A7 _ _ _
                  · rw [A6 _ _ e']
                    cases hq':A8 q h3 with
                    | none => rfl
                    | some o2 =>
                      rcases g3'.sep n1 q _ o2 _ _ _ s tot e hlp hq' h3n1 hq with e2 | e2
                      · cases e2
                      · have := g3'.sup q n1 o2 _ _ s tot _ _ hq' e2 hlp hq h3n1; cases this
              refine ⟨none, w3.putObj (w.heap.size+2) (.loop { FN A3 fn3 tm3 D3 with state := .exhausted }), run_endLoop hrec (by simp), ?_⟩
              refine wpIn_seq (wpIn_region_list ?_)
              rw [e4]
              generalize hw4:w3.putObj (w.heap.size+2) (.loop { FN A3 fn3 tm3 D3 with state := .exhausted })=w4
              have hb4:w4.heap[w.heap.size]? = some (.cells c3 e3 fr3) := by rw [←hw4, World.putObj_heap_other (by omega)]; exact k1
              have hD4:w4.heap[w.heap.size+1]? = some (.deferred (some [])) := by rw [←hw4, World.putObj_heap_other (by omega)]; exact hD3
              have hld:(execOp (Act.eval { tmps := tm, defers := [{ target := .collected (w.heap.size+1), args := #[] }]++[] }) o4).run P w4 = .ok (.value SV) w4 := by
                have e2:Act.eval { tmps := tm, defers := [{ target := .collected (w.heap.size+1), args := #[] }]++[] } (.tmp 2) = .pointer (some ⟨w.heap.size, 0, none⟩) := ht2
                simp only [execOp, p4, e2]
                simp [Instr.loadAt, Instr.sureAddr, loadVar, Ct hagg, Gm hb4 hSV]
              refine wpListIn_plain g4 fun K4 hK4 => C3 hld (hK4 _ _ ?_)
              refine wpListIn_plain g5 fun K5 hK5 => C3 (x := SV) (w' := w4) (by
                simp only [execOp, p5, Act.eval, Act.put, d4]; simp [Array.getD_eq_getD_getElem?, htsz]) (hK5 _ _ ?_)
              refine wpListIn_nil (wpIn_ret ?_)
              have take := run_takeDeferred (P := P) hD4
              rw [d4, d5]
              show LeavesInM Fence.wide 0 P fn _ _ [{ target := .collected (w.heap.size+1), args := #[] }] .returning w4
              unfold LeavesInM
              refine ⟨(by intro h; cases h), .inl ⟨w.heap.size+1, _, rfl, take, ?_⟩⟩
              unfold LeavesInM LeavesIn
              refine ⟨SV, ?_, ?_⟩
              · simp [results, hres, Act.put, htsz, Array.getD_eq_getD_getElem?]
              · have hna:∀ q, φ q≠none->A8 q (Ac n1 (Ac n h3 none) none)=A8 q h3 := fun q hq => by
                  rw [A6 _ _ (fun e:n1=q => hq (by rw [←e]; exact hφn1)), A6 _ _ (fun e:n=q => hq (by rw [←e]; exact hφn))]
                have fz := ((Fr.trans fc f3).show hna).poke (l := w.heap.size+2) (.loop { FN A3 fn3 tm3 D3 with state := .exhausted }) (by omega)
                have gz := (g3'.aside (p := n)).aside (p := n1)
                have gz := gz.poke ul3 (.loop { FN A3 fn3 tm3 D3 with state := .exhausted }) (fun c e fr h => by rw [hrec] at h; cases h)
                rw [hw4] at fz gz
                have uDz:Xv φ3 (Ac n1 (Ac n h3 none) none) (w.heap.size+1) := fun q s tot hq => by
                  by_cases e:n1=q
                  · subst e; exact A7 _ _ _
                  · rw [A6 _ _ e]
                    by_cases e':n=q
                    · subst e'; exact A7 _ _ _
                    · rw [A6 _ _ e']; exact uD3 q s tot hq
                exact hK SV _ ⟨sv, _, n3, φ3, hΦ, fz.poke _ (by omega), gz.poke uDz _ (fun c e fr h => by rw [hD4] at h; cases h), rSV⟩
          next => cases hsh
        next => cases hsh
      next => cases hsh
    next => cases hsh
  next => cases hsh
end
end Go.Ev
