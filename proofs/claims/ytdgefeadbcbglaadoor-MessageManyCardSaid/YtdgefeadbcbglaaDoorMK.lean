/- What the functions do, as equations over their texts, 0. -/
import Derived.Test.YtdgefeadbcbglaaDoorMT
import Derived.KernelRfl
import Derived.KernelRfl
namespace Go.Ev.YtdgefeadbcbglaaDoor
open Go Go.Ev
set_option linter.unusedVariables false
set_option linter.unusedSimpArgs false
theorem call2_at {T:FC} {m:Nat} {f:K3} {args:List V} {h:Heap} {n:K4}:Ar T (m+1) f args h n=NO (Ar T m) (C5 f T) args h n := by
  show V6 f T (fun o => NO (Ar T m) o args h n)=_
  exact Q6 _ _ _
noncomputable def tokL (c:DZ):S->Heap->K4->R := fun t h n=>g3 t fun z3=>g2 t fun z4=>AR z3 z4 fun z5=>AY z5 (Aj 1 (g0 t fun z6=>AZ z6 z3 fun z7=>Ai (c ⟨.d0,.d6,.d14⟩ [z7] h n) fun z8 h n=>C6 z8 fun z9=>gK z9 z6 h n fun za h n=>gK z9 z3 h n fun zb h n=>gO z9 h n (fun k=>AZ za zb k) fun zc h n=>Ba true z9 h n (fun k=>Ai (c ⟨.d0,.d6,.d15⟩ [(.str 15 656752058384775479847414506184778529),zc] h n) k) fun zd h n=>gO z9 h n (fun k=>AR zd (iI 0) k) fun ze h n=>AA z9 ze (.bool false) fun zf=>AY zf (w1 t (.bool false) fun t=>rT t h n)<|nR t h n) fun t h n=>g3 t fun zg=>Ap zg (iI 1) fun zh=>w3 t zh fun t=>nR t h n)<|.ok (.exit 0) t h n
noncomputable def x94L:Ent := .code en3 (fun c t h n=>g0 t fun z1=>B0 z1 fun z2=>Aj 0 (w1 t (.bool false) fun t=>w2 t z2 fun t=>w3 t (iI 0) fun t=>Bd (tokL c) t h n) fun t h n=>g0 t fun zi=>B4 zi (.str 0 0) fun zj=>w1 t zj fun t=>rT t h n) (fun t h n=>g1 t fun a0=>.rv a0 h n)
theorem x94_L:x94=x94L := rfl
noncomputable def tarL (c:DZ):S->Heap->K4->R := fun t h n=>g3 t fun z3=>g2 t fun z4=>AR z3 z4 fun z5=>AY z5 (Aj 1 (g0 t fun z6=>AZ z6 z3 fun z7=>AR z7 (iB 33) fun z8=>Ba false z8 h n (fun k=>k z6 h n) fun z9 h n=>Ba false z8 h n (fun k=>k z3 h n) fun za h n=>Ba false z8 h n (fun k=>AZ z9 za fun v=>k v h n) fun zb h n=>Ba false z8 h n (fun k=>C3 zb (iB 126) fun v=>k v h n) fun zc h n=>AA z8 (.bool true) zc fun zd=>AY zd (w1 t (.bool false) fun t=>rT t h n)<|nR t h n) fun t h n=>g3 t fun ze=>Ap ze (iI 1) fun zf=>w3 t zf fun t=>nR t h n)<|.ok (.exit 0) t h n
noncomputable def x95L:Ent := .code en3 (fun c t h n=>g0 t fun z1=>B0 z1 fun z2=>Aj 0 (w1 t (.bool false) fun t=>w2 t z2 fun t=>w3 t (iI 0) fun t=>Bd (tarL c) t h n) fun t h n=>g0 t fun zg=>B4 zg (.str 0 0) fun zh=>w1 t zh fun t=>rT t h n) (fun t h n=>g1 t fun a0=>.rv a0 h n)
theorem x95_L:x95=x95L := rfl
noncomputable def valL (c:DZ):S->Heap->K4->R := fun t h n=>g3 t fun z3=>g2 t fun z4=>AR z3 z4 fun z5=>AY z5 (Aj 1 (g0 t fun z6=>AZ z6 z3 fun z7=>AR z7 (iB 32) fun z8=>gK z8 z7 h n fun z9 h n=>gO z8 h n (fun k=>B4 z9 (iB 9) k) fun za h n=>AA z8 za (.bool false) fun zb=>Ba false zb h n (fun k=>k z7 h n) fun zc h n=>Ba false zb h n (fun k=>AW zc (iB 127) fun v=>k v h n) fun zd h n=>AA zb (.bool true) zd fun ze=>AY ze (w1 t (.bool false) fun t=>rT t h n)<|nR t h n) fun t h n=>g3 t fun zf=>Ap zf (iI 1) fun zg=>w3 t zg fun t=>nR t h n)<|.ok (.exit 0) t h n
noncomputable def x98L:Ent := .code en3 (fun c t h n=>g0 t fun z1=>B0 z1 fun z2=>Aj 0 (w1 t (.bool false) fun t=>w2 t z2 fun t=>w3 t (iI 0) fun t=>Bd (valL c) t h n) fun t h n=>g0 t fun zh=>AW zh (.str 0 0) fun zi=>Ba false zi h n (fun k=>k zh h n) fun zj h n=>Ba false zi h n (fun k=>AZ zj (iI 0) fun v=>k v h n) fun zk h n=>Ba false zi h n (fun k=>Ai (c ⟨.d0,.d7,.d1⟩ [zk] h n) k) fun zl h n=>Ba false zi h n (fun k=>C6 zl fun v=>k v h n) fun zm h n=>Ba false zi h n (fun k=>k zm h n) fun zn h n=>gK zn zh h n fun zo h n=>gK zn zh h n fun zp h n=>gO zn h n (fun k=>B0 zp k) fun zq h n=>gO zn h n (fun k=>C7 zq (iI 1) k) fun zr h n=>gO zn h n (fun k=>AZ zo zr k) fun zs h n=>Ba true zn h n (fun k=>Ai (c ⟨.d0,.d7,.d1⟩ [zs] h n) k) fun zt h n=>gO zn h n (fun k=>C6 zt k) fun zu h n=>Ba false zi h n (fun k=>AA zn zu (.bool false) fun v=>k v h n) fun zv h n=>AA zi (.bool true) zv fun zw=>w1 t zw fun t=>rT t h n) (fun t h n=>g1 t fun a0=>.rv a0 h n)
theorem x98_L:x98=x98L := rfl
theorem q_iB (r:Nat):iB r = .int .u8 r := id rfl
def letterB (b:Nat):Bool := decide (48≤b∧b≤57∨97≤b∧b≤122∨65≤b∧b≤90)
def signL:List UInt8 := [33, 35, 36, 37, 38, 39, 42, 43, 45, 46, 94, 95, 96, 124, 126]
theorem signL_e:sb signL = .str 15 656752058384775479847414506184778529 := by kernel_rfl
theorem letter_ok {m b:Nat} {h:Heap} {n:K4} (hb:b<256):Ar tab (m+1) ⟨.d0, .d6, .d14⟩ [.int .u8 b] h n = .rv (.bool (letterB b)) h n := by
  rw [call2_at, show C5 ⟨.d0, .d6, .d14⟩ tab=some x110 from rfl, x110]
  unfold letterB
  rcases (by omega:b<48∨48≤b∧b≤57∨58≤b∧b≤64∨65≤b∧b≤90∨91≤b∧b≤96∨97≤b∧b≤122∨123≤b) with hc | hc | hc | hc | hc | hc | hc
  · rw [decide_eq_false (p := 48≤b∧b≤57∨97≤b∧b≤122∨65≤b∧b≤90) (by omega)]
    simp (config := {maxSteps := 3000000}) (disch := omega) only [qa,g0,g1,g2,g3,g4,g5,g6,g7,g8,g9,BC,BF,C0,BR,BI,BK,BM,BY,BT,BU,w0,w1,w2,w3,w4,w5,w6,w7,w8,w9,BD,BB,BS,BP,BV,BQ,BH,BO,BL,BN,Mk,Nat.reduceAdd,Nat.reduceSub,Nat.reduceMul,Nat.reduceMod,Nat.reduceDiv,Q0,U,en3,q_iB,FS,Am,Av,AN,AP,AO,AQ]
  · rw [decide_eq_true (p := 48≤b∧b≤57∨97≤b∧b≤122∨65≤b∧b≤90) (by omega)]
    simp (config := {maxSteps := 3000000}) (disch := omega) only [qa,g0,g1,g2,g3,g4,g5,g6,g7,g8,g9,BC,BF,C0,BR,BI,BK,BM,BY,BT,BU,w0,w1,w2,w3,w4,w5,w6,w7,w8,w9,BD,BB,BS,BP,BV,BQ,BH,BO,BL,BN,Mk,Nat.reduceAdd,Nat.reduceSub,Nat.reduceMul,Nat.reduceMod,Nat.reduceDiv,Q0,U,en3,q_iB,FS,Am,Av,AN,AP,AO,AQ]
  · rw [decide_eq_false (p := 48≤b∧b≤57∨97≤b∧b≤122∨65≤b∧b≤90) (by omega)]
    simp (config := {maxSteps := 3000000}) (disch := omega) only [qa,g0,g1,g2,g3,g4,g5,g6,g7,g8,g9,BC,BF,C0,BR,BI,BK,BM,BY,BT,BU,w0,w1,w2,w3,w4,w5,w6,w7,w8,w9,BD,BB,BS,BP,BV,BQ,BH,BO,BL,BN,Mk,Nat.reduceAdd,Nat.reduceSub,Nat.reduceMul,Nat.reduceMod,Nat.reduceDiv,Q0,U,en3,q_iB,FS,Am,Av,AN,AP,AO,AQ]
  · rw [decide_eq_true (p := 48≤b∧b≤57∨97≤b∧b≤122∨65≤b∧b≤90) (by omega)]
    simp (config := {maxSteps := 3000000}) (disch := omega) only [qa,g0,g1,g2,g3,g4,g5,g6,g7,g8,g9,BC,BF,C0,BR,BI,BK,BM,BY,BT,BU,w0,w1,w2,w3,w4,w5,w6,w7,w8,w9,BD,BB,BS,BP,BV,BQ,BH,BO,BL,BN,Mk,Nat.reduceAdd,Nat.reduceSub,Nat.reduceMul,Nat.reduceMod,Nat.reduceDiv,Q0,U,en3,q_iB,FS,Am,Av,AN,AP,AO,AQ]
  · rw [decide_eq_false (p := 48≤b∧b≤57∨97≤b∧b≤122∨65≤b∧b≤90) (by omega)]
    simp (config := {maxSteps := 3000000}) (disch := omega) only [qa,g0,g1,g2,g3,g4,g5,g6,g7,g8,g9,BC,BF,C0,BR,BI,BK,BM,BY,BT,BU,w0,w1,w2,w3,w4,w5,w6,w7,w8,w9,BD,BB,BS,BP,BV,BQ,BH,BO,BL,BN,Mk,Nat.reduceAdd,Nat.reduceSub,Nat.reduceMul,Nat.reduceMod,Nat.reduceDiv,Q0,U,en3,q_iB,FS,Am,Av,AN,AP,AO,AQ]
  · rw [decide_eq_true (p := 48≤b∧b≤57∨97≤b∧b≤122∨65≤b∧b≤90) (by omega)]
    simp (config := {maxSteps := 3000000}) (disch := omega) only [qa,g0,g1,g2,g3,g4,g5,g6,g7,g8,g9,BC,BF,C0,BR,BI,BK,BM,BY,BT,BU,w0,w1,w2,w3,w4,w5,w6,w7,w8,w9,BD,BB,BS,BP,BV,BQ,BH,BO,BL,BN,Mk,Nat.reduceAdd,Nat.reduceSub,Nat.reduceMul,Nat.reduceMod,Nat.reduceDiv,Q0,U,en3,q_iB,FS,Am,Av,AN,AP,AO,AQ]
  · rw [decide_eq_false (p := 48≤b∧b≤57∨97≤b∧b≤122∨65≤b∧b≤90) (by omega)]
    simp (config := {maxSteps := 3000000}) (disch := omega) only [qa,g0,g1,g2,g3,g4,g5,g6,g7,g8,g9,BC,BF,C0,BR,BI,BK,BM,BY,BT,BU,w0,w1,w2,w3,w4,w5,w6,w7,w8,w9,BD,BB,BS,BP,BV,BQ,BH,BO,BL,BN,Mk,Nat.reduceAdd,Nat.reduceSub,Nat.reduceMul,Nat.reduceMod,Nat.reduceDiv,Q0,U,en3,q_iB,FS,Am,Av,AN,AP,AO,AQ]
def blankB (b:Nat):Bool := decide (b=32∨b=9)
theorem blank_ok {m b:Nat} {h:Heap} {n:K4} (hb:b<256):Ar tab (m+1) ⟨.d0, .d7, .d1⟩ [.int .u8 b] h n = .rv (.bool (blankB b)) h n := by
  rw [call2_at, show C5 ⟨.d0, .d7, .d1⟩ tab=some x113 from rfl, x113]
  unfold blankB
  by_cases h1:b=32
  · subst h1
    simp (config := {maxSteps := 3000000}) (disch := omega) only [qa,g0,g1,g2,g3,g4,g5,g6,g7,g8,g9,BC,BF,C0,BR,BI,BK,BM,BY,BT,BU,w0,w1,w2,w3,w4,w5,w6,w7,w8,w9,BD,BB,BS,BP,BV,BQ,BH,BO,BL,BN,Mk,Nat.reduceAdd,Nat.reduceSub,Nat.reduceMul,Nat.reduceMod,Nat.reduceDiv,Q0,U,en3,q_iB,FS,Am,Av,AN,AP,AO,AQ,true_or]
  · by_cases h2:b=9
    · subst h2
      simp (config := {maxSteps := 3000000}) (disch := omega) only [qa,g0,g1,g2,g3,g4,g5,g6,g7,g8,g9,BC,BF,C0,BR,BI,BK,BM,BY,BT,BU,w0,w1,w2,w3,w4,w5,w6,w7,w8,w9,BD,BB,BS,BP,BV,BQ,BH,BO,BL,BN,Mk,Nat.reduceAdd,Nat.reduceSub,Nat.reduceMul,Nat.reduceMod,Nat.reduceDiv,Q0,U,en3,q_iB,FS,Am,Av,AN,AP,AO,AQ,or_true]
    · rw [decide_eq_false (p := b=32∨b=9) (by omega)]
      simp (config := {maxSteps := 3000000}) (disch := omega) only [qa,g0,g1,g2,g3,g4,g5,g6,g7,g8,g9,BC,BF,C0,BR,BI,BK,BM,BY,BT,BU,w0,w1,w2,w3,w4,w5,w6,w7,w8,w9,BD,BB,BS,BP,BV,BQ,BH,BO,BL,BN,Mk,Nat.reduceAdd,Nat.reduceSub,Nat.reduceMul,Nat.reduceMod,Nat.reduceDiv,Q0,U,en3,q_iB,FS,decide_eq_false h1,decide_eq_false h2,Am,Av,AN,AP,AO,AQ]
theorem ixByte_ok {m r:Nat} {l:List UInt8} {h:Heap} {n:K4} (hl:l.length≤1000000000):Ar tab (m+2) ⟨.d0, .d7, .d11⟩ [sb l, .int .u8 r] h n = .rv (.int .i64 (J8 r l)) h n := by
  have e:Ar tab (m+1) ⟨.d0, .d8, .d11⟩ [sb l, .int .u8 r] h n = .rv (.int .i64 (J8 r l)) h n := by
    rw [call2_at, show C5 ⟨.d0, .d8, .d11⟩ tab=some (.prim CH) from rfl]
    show KW (CH [sb l, .int .u8 r] h n)=_
    rw [pIx hl]; rfl
  rw [call2_at, show C5 ⟨.d0, .d7, .d11⟩ tab=some x123 from rfl, x123]
  simp (config := {maxSteps := 3000000}) (disch := omega) only [qa,g0,g1,g2,g3,g4,g5,g6,g7,g8,g9,BC,BF,C0,BR,BI,BK,BM,BY,BT,BU,w0,w1,w2,w3,w4,w5,w6,w7,w8,w9,BD,BB,BS,BP,BV,BQ,BH,BO,BL,BN,Mk,Nat.reduceAdd,Nat.reduceSub,Nat.reduceMul,Nat.reduceMod,Nat.reduceDiv,Q0,U,en1,e]
theorem indexByte_ok {m r:Nat} {l:List UInt8} {h:Heap} {n:K4} (hl:l.length≤1000000000):Ar tab (m+3) ⟨.d0, .d6, .d15⟩ [sb l, .int .u8 r] h n = .rv (.int .i64 (J8 r l)) h n := by
  have e := ixByte_ok (m := m) (r := r) (h := h) (n := n) hl
  rw [call2_at, show C5 ⟨.d0, .d6, .d15⟩ tab=some x111 from rfl, x111]
  simp (config := {maxSteps := 3000000}) (disch := omega) only [qa,g0,g1,g2,g3,g4,g5,g6,g7,g8,g9,BC,BF,C0,BR,BI,BK,BM,BY,BT,BU,w0,w1,w2,w3,w4,w5,w6,w7,w8,w9,BD,BB,BS,BP,BV,BQ,BH,BO,BL,BN,Mk,Nat.reduceAdd,Nat.reduceSub,Nat.reduceMul,Nat.reduceMod,Nat.reduceDiv,Q0,U,en1,e]
def signB (b:Nat):Bool := (DP b signL).isSome
theorem lt_idx {r:Nat} {l:List UInt8} (hl:l.length≤1000000000):DK .i64 (J8 r l) 0 = !(DP r l).isSome := by
  unfold J8
  cases h:DP r l with
  | none => rw [Ls (by decide) (by decide)]; rfl
  | some j =>
    show DK .i64 j 0=false
    rw [RE (by have := JM h; omega) (by decide), decide_eq_false (by omega)]
/-- A byte of a token. -/
def tokC (b:UInt8):Bool := letterB b.toNat || signB b.toNat
def tokB (l:List UInt8):Bool := l.all tokC&&decide (¬ l=[])
theorem token_ok {m:Nat} {l:List UInt8} {h:Heap} {n:K4} (hl:l.length<900000000):Ar tab (m+4) ⟨.d0, .d5, .d14⟩ [sb l] h n = .rv (.bool (tokB l)) h n := by
  have e1 := fun κ => Fe l (by omega) κ
  have step:∀ (i:Nat) (hi:i<l.length), tokC l[i]=true->tokL (Ar tab (m+3)) (.mk (.mk (sb l) (.bool false) (.int .i64 l.length) (.int .i64 i)) Q0 Q0 Q0 Q0 Q0 Q0 Q0) h n = .ok .nrm (.mk (.mk (sb l) (.bool false) (.int .i64 l.length) (.int .i64 (i+1))) Q0 Q0 Q0 Q0 Q0 Q0 Q0) h n := by
    intro i hi hp
    have e2 := fun κ => Ek hi (by omega) κ
    have e3 := letter_ok (m := m+2) (h := h) (n := n) l[i].toNat_lt
    have e4 := indexByte_ok (m := m) (r := l[i].toNat) (l := signL) (h := h) (n := n) (by decide)
    rw [signL_e] at e4
    unfold tokL
    cases hlt:letterB l[i].toNat with
    | true => simp (config := {maxSteps := 3000000}) (disch := omega) only [qa,g0,g1,g2,g3,g4,g5,g6,g7,g8,g9,BC,BF,C0,BR,BI,BK,BM,BY,BT,BU,w0,w1,w2,w3,w4,w5,w6,w7,w8,w9,BD,BB,BS,BP,BV,BQ,BH,BO,BL,BN,Mk,Nat.reduceAdd,Nat.reduceSub,Nat.reduceMul,Nat.reduceMod,Nat.reduceDiv,Q0,U,e2,e3,hlt,Am,Av,AN,AP,AO,AQ]
    | false =>
      have hs:signB l[i].toNat=true := by unfold tokC at hp; rw [hlt] at hp; exact hp
      have e5 := lt_idx (r := l[i].toNat) (l := signL) (by decide)
      unfold signB at hs
      rw [hs] at e5
      simp (config := {maxSteps := 3000000}) (disch := omega) only [qa,g0,g1,g2,g3,g4,g5,g6,g7,g8,g9,BC,BF,C0,BR,BI,BK,BM,BY,BT,BU,w0,w1,w2,w3,w4,w5,w6,w7,w8,w9,BD,BB,BS,BP,BV,BQ,BH,BO,BL,BN,Mk,Nat.reduceAdd,Nat.reduceSub,Nat.reduceMul,Nat.reduceMod,Nat.reduceDiv,Q0,U,e2,e3,hlt,e4,e5,Am,Av,AN,AP,AO,AQ]
  have bad:∀ (i:Nat) (hi:i<l.length), tokC l[i]=false->tokL (Ar tab (m+3)) (.mk (.mk (sb l) (.bool false) (.int .i64 l.length) (.int .i64 i)) Q0 Q0 Q0 Q0 Q0 Q0 Q0) h n = .ok .ret (.mk (.mk (sb l) (.bool false) (.int .i64 l.length) (.int .i64 i)) Q0 Q0 Q0 Q0 Q0 Q0 Q0) h n := by
    intro i hi hp
    have e2 := fun κ => Ek hi (by omega) κ
    have e3 := letter_ok (m := m+2) (h := h) (n := n) l[i].toNat_lt
    have e4 := indexByte_ok (m := m) (r := l[i].toNat) (l := signL) (h := h) (n := n) (by decide)
    rw [signL_e] at e4
    have hlt:letterB l[i].toNat=false := by unfold tokC at hp; exact (Bool.or_eq_false_iff.1 hp).1
    have hs:signB l[i].toNat=false := by unfold tokC at hp; exact (Bool.or_eq_false_iff.1 hp).2
    have e5 := lt_idx (r := l[i].toNat) (l := signL) (by decide)
    unfold signB at hs
    rw [hs] at e5
    unfold tokL
    simp (config := {maxSteps := 3000000}) (disch := omega) only [qa,g0,g1,g2,g3,g4,g5,g6,g7,g8,g9,BC,BF,C0,BR,BI,BK,BM,BY,BT,BU,w0,w1,w2,w3,w4,w5,w6,w7,w8,w9,BD,BB,BS,BP,BV,BQ,BH,BO,BL,BN,Mk,Nat.reduceAdd,Nat.reduceSub,Nat.reduceMul,Nat.reduceMod,Nat.reduceDiv,Q0,U,e2,e3,hlt,e4,e5,Am,Av,AN,AP,AO,AQ]
  have fin:tokL (Ar tab (m+3)) (.mk (.mk (sb l) (.bool false) (.int .i64 l.length) (.int .i64 l.length)) Q0 Q0 Q0 Q0 Q0 Q0 Q0) h n = .ok (.exit 0) (.mk (.mk (sb l) (.bool false) (.int .i64 l.length) (.int .i64 l.length)) Q0 Q0 Q0 Q0 Q0 Q0 Q0) h n := by
    unfold tokL
    simp (config := {maxSteps := 3000000}) (disch := omega) only [qa,g0,g1,g2,g3,g4,g5,g6,g7,g8,g9,BC,BF,C0,BR,BI,BK,BM,BY,BT,BU,w0,w1,w2,w3,w4,w5,w6,w7,w8,w9,BD,BB,BS,BP,BV,BQ,BH,BO,BL,BN,Mk,Nat.reduceAdd,Nat.reduceSub,Nat.reduceMul,Nat.reduceMod,Nat.reduceDiv,Q0,U,Am,Av,AN,AP,AO,AQ]
  have key := Hm (P := tokC) (l := l) (mk := fun i => .mk (.mk (sb l) (.bool false) (.int .i64 l.length) (.int .i64 i)) Q0 Q0 Q0 Q0 Q0 Q0 Q0) (fin := fun i => .mk (.mk (sb l) (.bool false) (.int .i64 l.length) (.int .i64 i)) Q0 Q0 Q0 Q0 Q0 Q0 Q0) hl step bad fin
  simp only [Q0] at key
  rw [call2_at, show C5 ⟨.d0, .d5, .d14⟩ tab=some x94 from rfl, x94_L, x94L]
  unfold tokB
  rcases key with ⟨h1, h2⟩ | ⟨h1, i', h2⟩
  · rw [h1]
    simp (config := {maxSteps := 3000000}) (disch := omega) only [qa,g0,g1,g2,g3,g4,g5,g6,g7,g8,g9,BC,BF,C0,BR,BI,BK,BM,BY,BT,BU,w0,w1,w2,w3,w4,w5,w6,w7,w8,w9,BD,BB,BS,BP,BV,BQ,BH,BO,BL,BN,Mk,Nat.reduceAdd,Nat.reduceSub,Nat.reduceMul,Nat.reduceMod,Nat.reduceDiv,Q0,U,en3,e1,h2,IN,Am,Av,AN,AP,AO,AQ]
  · rw [h1]
    simp (config := {maxSteps := 3000000}) (disch := omega) only [qa,g0,g1,g2,g3,g4,g5,g6,g7,g8,g9,BC,BF,C0,BR,BI,BK,BM,BY,BT,BU,w0,w1,w2,w3,w4,w5,w6,w7,w8,w9,BD,BB,BS,BP,BV,BQ,BH,BO,BL,BN,Mk,Nat.reduceAdd,Nat.reduceSub,Nat.reduceMul,Nat.reduceMod,Nat.reduceDiv,Q0,U,en3,e1,h2,Am,Av,AN,AP,AO,AQ]
/-- A byte of a target. -/
def tarC (b:UInt8):Bool := decide (33≤b.toNat∧b.toNat≤126)
def tarB (l:List UInt8):Bool := l.all tarC&&decide (¬ l=[])
theorem target_ok {m:Nat} {l:List UInt8} {h:Heap} {n:K4} (hl:l.length<900000000):Ar tab (m+1) ⟨.d0, .d5, .d15⟩ [sb l] h n = .rv (.bool (tarB l)) h n := by
  have e1 := fun κ => Fe l (by omega) κ
  have step:∀ (i:Nat) (hi:i<l.length), tarC l[i]=true->tarL (Ar tab m) (.mk (.mk (sb l) (.bool false) (.int .i64 l.length) (.int .i64 i)) Q0 Q0 Q0 Q0 Q0 Q0 Q0) h n = .ok .nrm (.mk (.mk (sb l) (.bool false) (.int .i64 l.length) (.int .i64 (i+1))) Q0 Q0 Q0 Q0 Q0 Q0 Q0) h n := by
    intro i hi hp
    have e2 := fun κ => Ek hi (by omega) κ
    have hb := l[i].toNat_lt
    have hp := of_decide_eq_true hp
    generalize l[i].toNat=b at *
    unfold tarL
    simp (config := {maxSteps := 3000000}) (disch := omega) only [qa,g0,g1,g2,g3,g4,g5,g6,g7,g8,g9,BC,BF,C0,BR,BI,BK,BM,BY,BT,BU,w0,w1,w2,w3,w4,w5,w6,w7,w8,w9,BD,BB,BS,BP,BV,BQ,BH,BO,BL,BN,Mk,Nat.reduceAdd,Nat.reduceSub,Nat.reduceMul,Nat.reduceMod,Nat.reduceDiv,Q0,U,e2,q_iB,FS,Am,Av,AN,AP,AO,AQ]
  have bad:∀ (i:Nat) (hi:i<l.length), tarC l[i]=false->tarL (Ar tab m) (.mk (.mk (sb l) (.bool false) (.int .i64 l.length) (.int .i64 i)) Q0 Q0 Q0 Q0 Q0 Q0 Q0) h n = .ok .ret (.mk (.mk (sb l) (.bool false) (.int .i64 l.length) (.int .i64 i)) Q0 Q0 Q0 Q0 Q0 Q0 Q0) h n := by
    intro i hi hp
    have e2 := fun κ => Ek hi (by omega) κ
    have hb := l[i].toNat_lt
    have hp := of_decide_eq_false hp
    generalize l[i].toNat=b at *
    unfold tarL
    rcases (by omega:b<33∨126<b) with hc | hc
    · simp (config := {maxSteps := 3000000}) (disch := omega) only [qa,g0,g1,g2,g3,g4,g5,g6,g7,g8,g9,BC,BF,C0,BR,BI,BK,BM,BY,BT,BU,w0,w1,w2,w3,w4,w5,w6,w7,w8,w9,BD,BB,BS,BP,BV,BQ,BH,BO,BL,BN,Mk,Nat.reduceAdd,Nat.reduceSub,Nat.reduceMul,Nat.reduceMod,Nat.reduceDiv,Q0,U,e2,q_iB,FS,Am,Av,AN,AP,AO,AQ]
    · simp (config := {maxSteps := 3000000}) (disch := omega) only [qa,g0,g1,g2,g3,g4,g5,g6,g7,g8,g9,BC,BF,C0,BR,BI,BK,BM,BY,BT,BU,w0,w1,w2,w3,w4,w5,w6,w7,w8,w9,BD,BB,BS,BP,BV,BQ,BH,BO,BL,BN,Mk,Nat.reduceAdd,Nat.reduceSub,Nat.reduceMul,Nat.reduceMod,Nat.reduceDiv,Q0,U,e2,q_iB,FS,Am,Av,AN,AP,AO,AQ]
  have fin:tarL (Ar tab m) (.mk (.mk (sb l) (.bool false) (.int .i64 l.length) (.int .i64 l.length)) Q0 Q0 Q0 Q0 Q0 Q0 Q0) h n = .ok (.exit 0) (.mk (.mk (sb l) (.bool false) (.int .i64 l.length) (.int .i64 l.length)) Q0 Q0 Q0 Q0 Q0 Q0 Q0) h n := by
    unfold tarL
    simp (config := {maxSteps := 3000000}) (disch := omega) only [qa,g0,g1,g2,g3,g4,g5,g6,g7,g8,g9,BC,BF,C0,BR,BI,BK,BM,BY,BT,BU,w0,w1,w2,w3,w4,w5,w6,w7,w8,w9,BD,BB,BS,BP,BV,BQ,BH,BO,BL,BN,Mk,Nat.reduceAdd,Nat.reduceSub,Nat.reduceMul,Nat.reduceMod,Nat.reduceDiv,Q0,U,Am,Av,AN,AP,AO,AQ]
  have key := Hm (P := tarC) (l := l) (mk := fun i => .mk (.mk (sb l) (.bool false) (.int .i64 l.length) (.int .i64 i)) Q0 Q0 Q0 Q0 Q0 Q0 Q0) (fin := fun i => .mk (.mk (sb l) (.bool false) (.int .i64 l.length) (.int .i64 i)) Q0 Q0 Q0 Q0 Q0 Q0 Q0) hl step bad fin
  simp only [Q0] at key
  rw [call2_at, show C5 ⟨.d0, .d5, .d15⟩ tab=some x95 from rfl, x95_L, x95L]
  unfold tarB
  rcases key with ⟨h1, h2⟩ | ⟨h1, i', h2⟩
  · rw [h1]
    simp (config := {maxSteps := 3000000}) (disch := omega) only [qa,g0,g1,g2,g3,g4,g5,g6,g7,g8,g9,BC,BF,C0,BR,BI,BK,BM,BY,BT,BU,w0,w1,w2,w3,w4,w5,w6,w7,w8,w9,BD,BB,BS,BP,BV,BQ,BH,BO,BL,BN,Mk,Nat.reduceAdd,Nat.reduceSub,Nat.reduceMul,Nat.reduceMod,Nat.reduceDiv,Q0,U,en3,e1,h2,IN,Am,Av,AN,AP,AO,AQ]
  · rw [h1]
    simp (config := {maxSteps := 3000000}) (disch := omega) only [qa,g0,g1,g2,g3,g4,g5,g6,g7,g8,g9,BC,BF,C0,BR,BI,BK,BM,BY,BT,BU,w0,w1,w2,w3,w4,w5,w6,w7,w8,w9,BD,BB,BS,BP,BV,BQ,BH,BO,BL,BN,Mk,Nat.reduceAdd,Nat.reduceSub,Nat.reduceMul,Nat.reduceMod,Nat.reduceDiv,Q0,U,en3,e1,h2,Am,Av,AN,AP,AO,AQ]
/-- A byte of a value. -/
def valC (b:UInt8):Bool := decide (32≤b.toNat ∧ ¬ b.toNat=127∨b.toNat=9)
/-- Blanks stand at neither end. -/
def endsB (l:List UInt8):Bool := match l.head?, l.getLast? with
  | some a, some b => !blankB a.toNat && !blankB b.toNat
  | _, _ => true
def valB (l:List UInt8):Bool := l.all valC&&endsB l
theorem value_ok {m:Nat} {l:List UInt8} {h:Heap} {n:K4} (hl:l.length<900000000):Ar tab (m+2) ⟨.d0, .d6, .d2⟩ [sb l] h n = .rv (.bool (valB l)) h n := by
  have e1 := fun κ => Fe l (by omega) κ
  have step:∀ (i:Nat) (hi:i<l.length), valC l[i]=true->valL (Ar tab (m+1)) (.mk (.mk (sb l) (.bool false) (.int .i64 l.length) (.int .i64 i)) Q0 Q0 Q0 Q0 Q0 Q0 Q0) h n = .ok .nrm (.mk (.mk (sb l) (.bool false) (.int .i64 l.length) (.int .i64 (i+1))) Q0 Q0 Q0 Q0 Q0 Q0 Q0) h n := by
    intro i hi hp
    have e2 := fun κ => Ek hi (by omega) κ
    have hb := l[i].toNat_lt
    have hp := of_decide_eq_true hp
    generalize l[i].toNat=b at *
    unfold valL
    rcases (by omega:b=9∨(32≤b ∧ ¬ b=127)) with hc | hc
    · subst hc
      simp (config := {maxSteps := 3000000}) (disch := omega) only [qa,g0,g1,g2,g3,g4,g5,g6,g7,g8,g9,BC,BF,C0,BR,BI,BK,BM,BY,BT,BU,w0,w1,w2,w3,w4,w5,w6,w7,w8,w9,BD,BB,BS,BP,BV,BQ,BH,BO,BL,BN,Mk,Nat.reduceAdd,Nat.reduceSub,Nat.reduceMul,Nat.reduceMod,Nat.reduceDiv,Q0,U,e2,q_iB,FS,Am,Av,AN,AP,AO,AQ]
    · simp (config := {maxSteps := 3000000}) (disch := omega) only [qa,g0,g1,g2,g3,g4,g5,g6,g7,g8,g9,BC,BF,C0,BR,BI,BK,BM,BY,BT,BU,w0,w1,w2,w3,w4,w5,w6,w7,w8,w9,BD,BB,BS,BP,BV,BQ,BH,BO,BL,BN,Mk,Nat.reduceAdd,Nat.reduceSub,Nat.reduceMul,Nat.reduceMod,Nat.reduceDiv,Q0,U,e2,q_iB,FS,decide_eq_false hc.2,Am,Av,AN,AP,AO,AQ]
  have bad:∀ (i:Nat) (hi:i<l.length), valC l[i]=false->valL (Ar tab (m+1)) (.mk (.mk (sb l) (.bool false) (.int .i64 l.length) (.int .i64 i)) Q0 Q0 Q0 Q0 Q0 Q0 Q0) h n = .ok .ret (.mk (.mk (sb l) (.bool false) (.int .i64 l.length) (.int .i64 i)) Q0 Q0 Q0 Q0 Q0 Q0 Q0) h n := by
    intro i hi hp
    have e2 := fun κ => Ek hi (by omega) κ
    have hb := l[i].toNat_lt
    have hp := of_decide_eq_false hp
    generalize l[i].toNat=b at *
    unfold valL
    rcases (by omega:b=127∨(b<32 ∧ ¬ b=9)) with hc | hc
    · subst hc
      simp (config := {maxSteps := 3000000}) (disch := omega) only [qa,g0,g1,g2,g3,g4,g5,g6,g7,g8,g9,BC,BF,C0,BR,BI,BK,BM,BY,BT,BU,w0,w1,w2,w3,w4,w5,w6,w7,w8,w9,BD,BB,BS,BP,BV,BQ,BH,BO,BL,BN,Mk,Nat.reduceAdd,Nat.reduceSub,Nat.reduceMul,Nat.reduceMod,Nat.reduceDiv,Q0,U,e2,q_iB,FS,Am,Av,AN,AP,AO,AQ]
    · simp (config := {maxSteps := 3000000}) (disch := omega) only [qa,g0,g1,g2,g3,g4,g5,g6,g7,g8,g9,BC,BF,C0,BR,BI,BK,BM,BY,BT,BU,w0,w1,w2,w3,w4,w5,w6,w7,w8,w9,BD,BB,BS,BP,BV,BQ,BH,BO,BL,BN,Mk,Nat.reduceAdd,Nat.reduceSub,Nat.reduceMul,Nat.reduceMod,Nat.reduceDiv,Q0,U,e2,q_iB,FS,decide_eq_false hc.2,Am,Av,AN,AP,AO,AQ]
  have fin:valL (Ar tab (m+1)) (.mk (.mk (sb l) (.bool false) (.int .i64 l.length) (.int .i64 l.length)) Q0 Q0 Q0 Q0 Q0 Q0 Q0) h n = .ok (.exit 0) (.mk (.mk (sb l) (.bool false) (.int .i64 l.length) (.int .i64 l.length)) Q0 Q0 Q0 Q0 Q0 Q0 Q0) h n := by
    unfold valL
    simp (config := {maxSteps := 3000000}) (disch := omega) only [qa,g0,g1,g2,g3,g4,g5,g6,g7,g8,g9,BC,BF,C0,BR,BI,BK,BM,BY,BT,BU,w0,w1,w2,w3,w4,w5,w6,w7,w8,w9,BD,BB,BS,BP,BV,BQ,BH,BO,BL,BN,Mk,Nat.reduceAdd,Nat.reduceSub,Nat.reduceMul,Nat.reduceMod,Nat.reduceDiv,Q0,U,Am,Av,AN,AP,AO,AQ]
  have key := Hm (P := valC) (l := l) (mk := fun i => .mk (.mk (sb l) (.bool false) (.int .i64 l.length) (.int .i64 i)) Q0 Q0 Q0 Q0 Q0 Q0 Q0) (fin := fun i => .mk (.mk (sb l) (.bool false) (.int .i64 l.length) (.int .i64 i)) Q0 Q0 Q0 Q0 Q0 Q0 Q0) hl step bad fin
  simp only [Q0] at key
  rw [call2_at, show C5 ⟨.d0, .d6, .d2⟩ tab=some x98 from rfl, x98_L, x98L]
  unfold valB
  rcases key with ⟨h1, h2⟩ | ⟨h1, i', h2⟩
  · rw [h1]
    by_cases h0:l=[]
    · subst h0
      simp (config := {maxSteps := 3000000}) (disch := omega) only [qa,g0,g1,g2,g3,g4,g5,g6,g7,g8,g9,BC,BF,C0,BR,BI,BK,BM,BY,BT,BU,w0,w1,w2,w3,w4,w5,w6,w7,w8,w9,BD,BB,BS,BP,BV,BQ,BH,BO,BL,BN,Mk,Nat.reduceAdd,Nat.reduceSub,Nat.reduceMul,Nat.reduceMod,Nat.reduceDiv,Q0,U,en3,e1,h2,MB,Am,Av,AN,AP,AO,AQ]
      rfl
    · have hp:0<l.length := List.length_pos_iff.2 h0
      have e3 := fun κ => Ek (l := l) (i := 0) hp (by omega) κ
      have e4 := fun κ => Ek (l := l) (i := l.length - 1) (by omega) (by omega) κ
      have e5 := blank_ok (m := m) (h := h) (n := n) (l[0]'hp).toNat_lt
      have e6 := blank_ok (m := m) (h := h) (n := n) (l[l.length - 1]'(by omega)).toNat_lt
      have e7:endsB l=(!blankB (l[0]'hp).toNat && !blankB (l[l.length - 1]'(by omega)).toNat) := by
        unfold endsB
        rw [List.head?_eq_getElem?, List.getLast?_eq_getElem?, List.getElem?_eq_getElem hp, List.getElem?_eq_getElem (show l.length - 1<l.length by omega)]
      rw [e7]
      cases hA:blankB (l[0]'hp).toNat with
      | true =>
        simp (config := {maxSteps := 3000000}) (disch := omega) only [qa,g0,g1,g2,g3,g4,g5,g6,g7,g8,g9,BC,BF,C0,BR,BI,BK,BM,BY,BT,BU,w0,w1,w2,w3,w4,w5,w6,w7,w8,w9,BD,BB,BS,BP,BV,BQ,BH,BO,BL,BN,Mk,Nat.reduceAdd,Nat.reduceSub,Nat.reduceMul,Nat.reduceMod,Nat.reduceDiv,Q0,U,en3,e1,h2,MB,decide_eq_false h0,e3,e5,hA,Am,Av,AN,AP,AO,AQ]
      | false =>
        simp (config := {maxSteps := 3000000}) (disch := omega) only [qa,g0,g1,g2,g3,g4,g5,g6,g7,g8,g9,BC,BF,C0,BR,BI,BK,BM,BY,BT,BU,w0,w1,w2,w3,w4,w5,w6,w7,w8,w9,BD,BB,BS,BP,BV,BQ,BH,BO,BL,BN,Mk,Nat.reduceAdd,Nat.reduceSub,Nat.reduceMul,Nat.reduceMod,Nat.reduceDiv,Q0,U,en3,e1,h2,MB,decide_eq_false h0,e3,e5,hA,e4,e6,Am,Av,AN,AP,AO,AQ]
  · rw [h1]
    simp (config := {maxSteps := 3000000}) (disch := omega) only [qa,g0,g1,g2,g3,g4,g5,g6,g7,g8,g9,BC,BF,C0,BR,BI,BK,BM,BY,BT,BU,w0,w1,w2,w3,w4,w5,w6,w7,w8,w9,BD,BB,BS,BP,BV,BQ,BH,BO,BL,BN,Mk,Nat.reduceAdd,Nat.reduceSub,Nat.reduceMul,Nat.reduceMod,Nat.reduceDiv,Q0,U,en3,e1,h2,Am,Av,AN,AP,AO,AQ]
noncomputable def tr1 (c:DZ):S->Heap->K4->R := fun t h n=>g0 t fun z1=>B4 z1 (.str 0 0) fun z2=>gK z2 z1 h n fun z3 h n=>gO z2 h n (fun k=>AZ z3 (iI 0) k) fun z4 h n=>Ba true z2 h n (fun k=>Ai (c ⟨.d0,.d7,.d1⟩ [z4] h n) k) fun z5 h n=>AA z2 z5 (.bool false) fun z6=>AY z6 (Aj 1 (CB z1 (some (iI 1)) none fun z7=>w0 t z7 fun t=>nR t h n) fun t h n=>nR t h n)<|.ok (.exit 0) t h n
noncomputable def tr2 (c:DZ):S->Heap->K4->R := fun t h n=>g0 t fun z8=>B4 z8 (.str 0 0) fun z9=>gK z9 z8 h n fun za h n=>gK z9 z8 h n fun zb h n=>gO z9 h n (fun k=>B0 zb k) fun zc h n=>gO z9 h n (fun k=>C7 zc (iI 1) k) fun zd h n=>gO z9 h n (fun k=>AZ za zd k) fun ze h n=>Ba true z9 h n (fun k=>Ai (c ⟨.d0,.d7,.d1⟩ [ze] h n) k) fun zf h n=>AA z9 zf (.bool false) fun zg=>AY zg (Aj 3 (B0 z8 fun zh=>C7 zh (iI 1) fun zi=>CB z8 none (some zi) fun zj=>w0 t zj fun t=>nR t h n) fun t h n=>nR t h n)<|.ok (.exit 2) t h n
noncomputable def x97L:Ent := .code en3 (fun c t h n=>Aj 0 (w1 t (.str 0 0) fun t=>Bd (tr1 c) t h n) fun t h n=>Aj 2 (Bd (tr2 c) t h n) fun t h n=>g0 t fun zk=>w1 t zk fun t=>rT t h n) (fun t h n=>g1 t fun a0=>.rv a0 h n)
theorem x97_L:x97=x97L := rfl
noncomputable def lowL (c:DZ):S->Heap->K4->R := fun t h n=>g5 t fun z4=>g4 t fun z5=>AR z4 z5 fun z6=>AY z6 (Aj 1 (g3 t fun z7=>Bl 1 z7 z4 fun z8=>Az z8 h fun z9=>DU z9 (iB 65) fun za=>gK za z9 h n fun zb h n=>gO za h n (fun k=>EA zb (iB 90) k) fun zc h n=>AA za zc (.bool false) fun zd=>Br (AY zd (g2 t fun ze=>Ap z9 (iB 97) fun zf=>C7 zf (iB 65) fun zg=>Bl 1 ze z4 fun zh=>Bb zh zg h fun h=>nR t h n) (nR t h n)) fun t h n=>nR t h n) fun t h n=>g5 t fun zi=>Ap zi (iI 1) fun zj=>w5 t zj fun t=>nR t h n)<|.ok (.exit 0) t h n
noncomputable def x80L:Ent := .code en3 (fun c t h n=>g0 t fun z1=>GW z1 h n fun z2 h n=>B3 z2 fun z3=>Aj 0 (w1 t (.str 0 0) fun t=>w2 t z2 fun t=>w3 t z2 fun t=>w4 t z3 fun t=>w5 t (iI 0) fun t=>Bd (lowL c) t h n) fun t h n=>g2 t fun zk=>C4 zk h fun zl=>w1 t zl fun t=>rT t h n) (fun t h n=>g1 t fun a0=>.rv a0 h n)
theorem x80_L:x80=x80L := rfl
def blkC (b:UInt8):Bool := blankB b.toNat
def trimL (l:List UInt8):List UInt8 := l.dropWhile blkC
def trimB (l:List UInt8):List UInt8 := ((trimL l).reverse.dropWhile blkC).reverse
theorem tr1_loop {m:Nat} {d1 d2 d3:V} {c1 c2 c3 c4 c5 c6 c7:SQ} {h:Heap} {n:K4}:∀ (l:List UInt8) (K:Nat), l.length<900000000 →
    Jy (tr1 (Ar tab (m+1))) (K+l.length+1) (.mk (.mk (sb l) d1 d2 d3) c1 c2 c3 c4 c5 c6 c7) h n = .ok (.exit 0) (.mk (.mk (sb (trimL l)) d1 d2 d3) c1 c2 c3 c4 c5 c6 c7) h n
  | [], K, _ => by
    rw [Cg]
    unfold tr1
    simp (config := {maxSteps := 3000000}) (disch := omega) only [qa,g0,g1,g2,g3,g4,g5,g6,g7,g8,g9,BC,BF,C0,BR,BI,BK,BM,BY,BT,BU,w0,w1,w2,w3,w4,w5,w6,w7,w8,w9,BD,BB,BS,BP,BV,BQ,BH,BO,BL,BN,Mk,Nat.reduceAdd,Nat.reduceSub,Nat.reduceMul,Nat.reduceMod,Nat.reduceDiv,Q0,U,IN,Am,Av,AN,AP,AO,AQ]
    rfl
  | b::l, K, hl => by
    have hl':l.length+1<900000000 := hl
    have e2 := fun κ => Ek (l := b::l) (i := 0) (by simp) (by omega) κ
    have e3 := blank_ok (m := m) (h := h) (n := n) b.toNat_lt
    have e2':∀ κ, AZ (sb (b::l)) (.int .i64 0) κ=κ (.int .u8 b.toNat) := e2
    have hne:¬ (b::l)=[] := by simp
    have e4:∀ κ, CB (sb (b::l)) (some (.int .i64 1)) none κ=κ (sb l) := fun κ => N1 (l := b::l) (k := 1) (by simp) (by omega) κ
    rw [show K+(b::l).length+1=(K+l.length+1)+1 by rw [List.length_cons]; omega, Cg]
    cases hb:blankB b.toNat with
    | true =>
      have ht:trimL (b::l)=trimL l := by unfold trimL; rw [List.dropWhile_cons, if_pos (show blkC b=true from hb)]
      have ih := tr1_loop (m := m) (d1 := d1) (d2 := d2) (d3 := d3) (c1 := c1) (c2 := c2) (c3 := c3) (c4 := c4) (c5 := c5) (c6 := c6) (c7 := c7) (h := h) (n := n) l K (by omega)
      rw [ht, ←ih]
      unfold tr1
      simp (config := {maxSteps := 3000000}) (disch := omega) only [qa,g0,g1,g2,g3,g4,g5,g6,g7,g8,g9,BC,BF,C0,BR,BI,BK,BM,BY,BT,BU,w0,w1,w2,w3,w4,w5,w6,w7,w8,w9,BD,BB,BS,BP,BV,BQ,BH,BO,BL,BN,Mk,Nat.reduceAdd,Nat.reduceSub,Nat.reduceMul,Nat.reduceMod,Nat.reduceDiv,Q0,U,IN,decide_eq_true hne,e2',e3,hb,e4,Am,Av,AN,AP,AO,AQ]
    | false =>
      have ht:trimL (b::l)=b::l := by unfold trimL; rw [List.dropWhile_cons, if_neg (by rw [show blkC b=false from hb]; decide)]
      rw [ht]
      unfold tr1
      simp (config := {maxSteps := 3000000}) (disch := omega) only [qa,g0,g1,g2,g3,g4,g5,g6,g7,g8,g9,BC,BF,C0,BR,BI,BK,BM,BY,BT,BU,w0,w1,w2,w3,w4,w5,w6,w7,w8,w9,BD,BB,BS,BP,BV,BQ,BH,BO,BL,BN,Mk,Nat.reduceAdd,Nat.reduceSub,Nat.reduceMul,Nat.reduceMod,Nat.reduceDiv,Q0,U,IN,decide_eq_true hne,e2',e3,hb,Am,Av,AN,AP,AO,AQ]
theorem tr2_loop {m:Nat} {d1 d2 d3:V} {c1 c2 c3 c4 c5 c6 c7:SQ} {h:Heap} {n:K4}:∀ (r:List UInt8) (K:Nat), r.length<900000000 →
    Jy (tr2 (Ar tab (m+1))) (K+r.length+1) (.mk (.mk (sb r.reverse) d1 d2 d3) c1 c2 c3 c4 c5 c6 c7) h n = .ok (.exit 2) (.mk (.mk (sb (r.dropWhile blkC).reverse) d1 d2 d3) c1 c2 c3 c4 c5 c6 c7) h n
  | [], K, _ => by
    rw [Cg]
    unfold tr2
    simp (config := {maxSteps := 3000000}) (disch := omega) only [qa,g0,g1,g2,g3,g4,g5,g6,g7,g8,g9,BC,BF,C0,BR,BI,BK,BM,BY,BT,BU,w0,w1,w2,w3,w4,w5,w6,w7,w8,w9,BD,BB,BS,BP,BV,BQ,BH,BO,BL,BN,Mk,Nat.reduceAdd,Nat.reduceSub,Nat.reduceMul,Nat.reduceMod,Nat.reduceDiv,Q0,U,IN,List.reverse_nil,List.dropWhile_nil,Am,Av,AN,AP,AO,AQ]
  | b::r, K, hl => by
    have hl':r.length+1<900000000 := hl
    have hlen:(b::r).reverse.length=r.length+1 := by rw [List.length_reverse]; rfl
    have hg:(b::r).reverse[r.length]'(by omega)=b := by simp
    have e1:∀ κ, B0 (sb (b::r).reverse) κ=κ (.int .i64 (r.length+1)) := fun κ => by
      have := Fe (b::r).reverse (by omega) κ
      rw [hlen] at this; exact this
    have e2:∀ κ, AZ (sb (b::r).reverse) (.int .i64 r.length) κ=κ (.int .u8 b.toNat) := fun κ => by
      have := Ek (l := (b::r).reverse) (i := r.length) (by omega) (by omega) κ
      rw [hg] at this; exact this
    have e3 := blank_ok (m := m) (h := h) (n := n) b.toNat_lt
    have hne:¬ (b::r).reverse=[] := by simp
    have e4:∀ κ, CB (sb (b::r).reverse) none (some (.int .i64 r.length)) κ=κ (sb r.reverse) := fun κ => by
      have := MX (l := (b::r).reverse) (k := r.length) (by omega) (by omega) κ
      rw [List.reverse_cons, List.take_left' (by rw [List.length_reverse])] at this
      rw [List.reverse_cons]; exact this
    have e5:Oy .i64 (r.length+1) 1=r.length := by rw [TO (by omega) (by omega)]; omega
    rw [show K+(b::r).length+1=(K+r.length+1)+1 by rw [List.length_cons]; omega, Cg]
    cases hb:blankB b.toNat with
    | true =>
      have ht:(b::r).dropWhile blkC=r.dropWhile blkC := by rw [List.dropWhile_cons, if_pos (show blkC b=true from hb)]
      have ih := tr2_loop (m := m) (d1 := d1) (d2 := d2) (d3 := d3) (c1 := c1) (c2 := c2) (c3 := c3) (c4 := c4) (c5 := c5) (c6 := c6) (c7 := c7) (h := h) (n := n) r K (by omega)
      rw [ht, ←ih]
      clear hg ih
      generalize (b::r).reverse=L at *
      unfold tr2
      simp (config := {maxSteps := 3000000}) (disch := omega) only [qa,g0,g1,g2,g3,g4,g5,g6,g7,g8,g9,BC,BF,C0,BR,BI,BK,BM,BY,BT,BU,w0,w1,w2,w3,w4,w5,w6,w7,w8,w9,BD,BB,BS,BP,BV,BQ,BH,BO,BL,BN,Mk,Nat.reduceAdd,Nat.reduceSub,Nat.reduceMul,Nat.reduceMod,Nat.reduceDiv,Q0,U,IN,decide_eq_true hne,e1,e5,e2,e3,hb,e4,Am,Av,AN,AP,AO,AQ]
    | false =>
      have ht:(b::r).dropWhile blkC=b::r := by rw [List.dropWhile_cons, if_neg (by rw [show blkC b=false from hb]; decide)]
      rw [ht]
      clear hg
      generalize (b::r).reverse=L at *
      unfold tr2
      simp (config := {maxSteps := 3000000}) (disch := omega) only [qa,g0,g1,g2,g3,g4,g5,g6,g7,g8,g9,BC,BF,C0,BR,BI,BK,BM,BY,BT,BU,w0,w1,w2,w3,w4,w5,w6,w7,w8,w9,BD,BB,BS,BP,BV,BQ,BH,BO,BL,BN,Mk,Nat.reduceAdd,Nat.reduceSub,Nat.reduceMul,Nat.reduceMod,Nat.reduceDiv,Q0,U,IN,decide_eq_true hne,e1,e5,e2,e3,hb,Am,Av,AN,AP,AO,AQ]
theorem trim_ok {m:Nat} {l:List UInt8} {h:Heap} {n:K4} (hl:l.length<900000000):Ar tab (m+2) ⟨.d0, .d6, .d1⟩ [sb l] h n = .rv (sb (trimB l)) h n := by
  have hl2:(trimL l).length≤l.length := (List.dropWhile_sublist _).length_le
  have k1 := tr1_loop (m := m) (d1 := .str 0 0) (d2 := Ay) (d3 := Ay) (c1 := Q0) (c2 := Q0) (c3 := Q0) (c4 := Q0) (c5 := Q0) (c6 := Q0) (c7 := Q0) (h := h) (n := n) l (999999999 - l.length) hl
  have k2 := tr2_loop (m := m) (d1 := .str 0 0) (d2 := Ay) (d3 := Ay) (c1 := Q0) (c2 := Q0) (c3 := Q0) (c4 := Q0) (c5 := Q0) (c6 := Q0) (c7 := Q0) (h := h) (n := n) (trimL l).reverse (999999999 - (trimL l).reverse.length) (by rw [List.length_reverse]; omega)
  rw [show 999999999 - l.length+l.length+1=999999999+1 by omega, Cg, ←Cu] at k1
  rw [show 999999999 - (trimL l).reverse.length+(trimL l).reverse.length+1=999999999+1 by rw [List.length_reverse]; omega, Cg, ←Cu, List.reverse_reverse] at k2
  simp only [Q0] at k1 k2
  rw [call2_at, show C5 ⟨.d0, .d6, .d1⟩ tab=some x97 from rfl, x97_L, x97L]
  simp (config := {maxSteps := 3000000}) (disch := omega) only [qa,g0,g1,g2,g3,g4,g5,g6,g7,g8,g9,BC,BF,C0,BR,BI,BK,BM,BY,BT,BU,w0,w1,w2,w3,w4,w5,w6,w7,w8,w9,BD,BB,BS,BP,BV,BQ,BH,BO,BL,BN,Mk,Nat.reduceAdd,Nat.reduceSub,Nat.reduceMul,Nat.reduceMod,Nat.reduceDiv,Q0,U,en3,k1,k2,Am,Av,AN,AP,AO,AQ]
  rfl
def lowC (b:UInt8):UInt8 := if 65≤b.toNat∧b.toNat≤90 then UInt8.ofNat (b.toNat+32) else b
theorem low_loop {m:Nat} {a0 d1 d2 d3:V} {c2 c3 c4 c5 c6 c7:SQ} {p n:K4} {l:List UInt8} (hl:l.length<900000000):∀ (j i:Nat) (h:Heap), i+j=l.length->A8 p h=some (.c (cb ((l.take i).map lowC++l.drop i)) false none) →
    ∃ h', (∀ K, Jy (lowL (Ar tab m)) (K+j+1) (.mk (.mk a0 d1 (.sl p 0 l.length l.length false 1) (.sl p 0 l.length l.length false 1)) (.mk (.int .i64 l.length) (.int .i64 i) d2 d3) c2 c3 c4 c5 c6 c7) h n = .ok (.exit 0) (.mk (.mk a0 d1 (.sl p 0 l.length l.length false 1) (.sl p 0 l.length l.length false 1)) (.mk (.int .i64 l.length) (.int .i64 l.length) d2 d3) c2 c3 c4 c5 c6 c7) h' n) ∧
      A8 p h'=some (.c (cb (l.map lowC)) false none) ∧ ∀ q:K4, q≠p->A8 q h'=A8 q h := by
  intro j
  induction j with
  | zero =>
    intro i h hi hp
    obtain rfl:i=l.length := by omega
    rw [List.take_length, List.drop_length, List.append_nil] at hp
    refine ⟨h, fun K => ?_, hp, fun q _ => rfl⟩
    rw [Cg]
    unfold lowL
    simp (config := {maxSteps := 3000000}) (disch := omega) only [qa,g0,g1,g2,g3,g4,g5,g6,g7,g8,g9,BC,BF,C0,BR,BI,BK,BM,BY,BT,BU,w0,w1,w2,w3,w4,w5,w6,w7,w8,w9,BD,BB,BS,BP,BV,BQ,BH,BO,BL,BN,Mk,Nat.reduceAdd,Nat.reduceSub,Nat.reduceMul,Nat.reduceMod,Nat.reduceDiv,Q0,U,Am,Av,AN,AP,AO,AQ]
  | succ j ih =>
    intro i h hi hp
    have hi':i<l.length := by omega
    have hlt:((l.take i).map lowC).length=i := by rw [List.length_map, List.length_take]; omega
    have hln:((l.take i).map lowC++l.drop i).length=l.length := by rw [List.length_append, hlt, List.length_drop]; omega
    have hgi:((l.take i).map lowC++l.drop i)[i]'(by omega)=l[i] := by
      have h1:((l.take i).map lowC++l.drop i)[i]? = some l[i] := by rw [List.getElem?_append_right (by omega), hlt, Nat.sub_self, List.getElem?_drop, Nat.add_zero, List.getElem?_eq_getElem hi']
      rw [List.getElem?_eq_getElem (by omega)] at h1
      exact Option.some.inj h1
    have e1:∀ κ:V->R, Lj (A8 p h) i κ=κ (.int .u8 l[i].toNat) := fun κ => by
      have := U1 hp (i := i) (by omega) κ
      rw [hgi] at this; exact this
    have hnx:((l.take i).map lowC++l.drop i).set i (lowC l[i])=(l.take (i+1)).map lowC++l.drop (i+1) := by
      rw [List.take_succ_eq_append_getElem hi', List.map_append, List.set_append_right _ _ (by omega), hlt, Nat.sub_self, List.append_assoc, List.drop_eq_getElem_cons hi']; rfl
    have hb := l[i].toNat_lt
    by_cases hc:65≤l[i].toNat∧l[i].toNat≤90
    · have hlo:lowC l[i]=UInt8.ofNat (l[i].toNat+32) := if_pos hc
      obtain ⟨h1, h1e⟩:∃ x, Af p h (some (.c (cb ((l.take (i+1)).map lowC++l.drop (i+1))) false none))=x := ⟨_, rfl⟩
      have e2:∀ κ:Heap->R, NM (A8 p h) h p i (.int .u8 (l[i].toNat+32)) κ=κ h1 := fun κ => by
        refine (DB h p i _ κ).symm.trans ?_
        refine (X2 hp (by omega) (by omega) κ).trans ?_
        rw [←hlo, hnx]
        exact congrArg κ h1e
      have e3:Oy .u8 (l[i].toNat+97) 65=l[i].toNat+32 := by
        unfold Oy
        rw [show Mk .u8=256 from rfl]; omega
      obtain ⟨h', e, k1, k2⟩ := ih (i+1) h1 (by omega) (by rw [←h1e, A6])
      refine ⟨h', fun K => ?_, k1, fun q hq => (k2 q hq).trans (by rw [←h1e]; exact A7 _ _ (Ne.symm hq))⟩
      rw [show K+(j+1)+1=(K+j+1)+1 by omega, Cg, ←e K]
      generalize l[i].toNat=b at *
      unfold lowL
      simp (config := {maxSteps := 3000000}) (disch := omega) only [qa,g0,g1,g2,g3,g4,g5,g6,g7,g8,g9,BC,BF,C0,BR,BI,BK,BM,BY,BT,BU,w0,w1,w2,w3,w4,w5,w6,w7,w8,w9,BD,BB,BS,BP,BV,BQ,BH,BO,BL,BN,Mk,Nat.reduceAdd,Nat.reduceSub,Nat.reduceMul,Nat.reduceMod,Nat.reduceDiv,Q0,U,q_iB,Nat.mul_one,Nat.zero_add,e1,FS,e3,e2,Am,Av,AN,AP,AO,AQ]
    · have hlo:lowC l[i]=l[i] := if_neg hc
      have hp1:A8 p h=some (.c (cb ((l.take (i+1)).map lowC++l.drop (i+1))) false none) := by
        rw [hp, ←hnx, hlo, ←hgi, List.set_getElem_self]
      obtain ⟨h', e, k1, k2⟩ := ih (i+1) h (by omega) hp1
      refine ⟨h', fun K => ?_, k1, k2⟩
      rw [show K+(j+1)+1=(K+j+1)+1 by omega, Cg, ←e K]
      generalize l[i].toNat=b at *
      unfold lowL
      rcases (by omega:b<65∨65≤b∧90<b) with hd | hd
      · simp (config := {maxSteps := 3000000}) (disch := omega) only [qa,g0,g1,g2,g3,g4,g5,g6,g7,g8,g9,BC,BF,C0,BR,BI,BK,BM,BY,BT,BU,w0,w1,w2,w3,w4,w5,w6,w7,w8,w9,BD,BB,BS,BP,BV,BQ,BH,BO,BL,BN,Mk,Nat.reduceAdd,Nat.reduceSub,Nat.reduceMul,Nat.reduceMod,Nat.reduceDiv,Q0,U,q_iB,Nat.mul_one,Nat.zero_add,e1,FS,Am,Av,AN,AP,AO,AQ]
      · simp (config := {maxSteps := 3000000}) (disch := omega) only [qa,g0,g1,g2,g3,g4,g5,g6,g7,g8,g9,BC,BF,C0,BR,BI,BK,BM,BY,BT,BU,w0,w1,w2,w3,w4,w5,w6,w7,w8,w9,BD,BB,BS,BP,BV,BQ,BH,BO,BL,BN,Mk,Nat.reduceAdd,Nat.reduceSub,Nat.reduceMul,Nat.reduceMod,Nat.reduceDiv,Q0,U,q_iB,Nat.mul_one,Nat.zero_add,e1,FS,Am,Av,AN,AP,AO,AQ]
theorem lower_ok {m:Nat} {l:List UInt8} {h:Heap} {n:K4} (hl:l.length<900000000) (hn:n.toN<60000) :
    ∃ h', Ar tab (m+1) ⟨.d0, .d5, .d0⟩ [sb l] h n = .rv (sb (l.map lowC)) h' n.up∧(∀ q:K4, q.toN<n.toN->A8 q h'=A8 q h)∧(Bc h n->Bc h' n.up) := by
  have u1 := K4.up_toN (p := n) (by omega)
  have es := fun κ => Tx l h (n := n) (by omega) κ
  obtain ⟨h1, h1e⟩:∃ x, Af n h (some (.c (cb l) false none))=x := ⟨_, rfl⟩
  have f1:∀ q:K4, q≠n->A8 q h1=A8 q h := fun q hq => by rw [←h1e]; exact A7 _ _ hq.symm
  have y1:A8 n h1=some (.c (cb l) false none) := by rw [←h1e]; exact A6 _ _ _
  obtain ⟨h2, e, k1, k2⟩ := low_loop (m := m) (a0 := sb l) (d1 := .str 0 0) (d2 := Ay) (d3 := Ay) (c2 := Q0) (c3 := Q0) (c4 := Q0) (c5 := Q0) (c6 := Q0) (c7 := Q0) (p := n) (n := n.up) hl l.length 0 h1 (by omega) (by rw [List.take_zero, List.drop_zero]; exact y1)
  have e9 := e (999999999 - l.length)
  rw [show 999999999 - l.length+l.length+1=999999999+1 by omega, Cg, ←Cu] at e9
  simp only [Q0] at e9
  have hb2:∀ κ:V->R, C4 (.sl n 0 l.length l.length false 1) h2 κ=κ (sb (l.map lowC)) := fun κ => by
    show br (Nat.beq 1 1) (Nm n h2 fun cs _ _ => Bh cs 0 l.length fun y => @Cs.rec (fun _ => R) (fun l => Ct l (fun m c => κ (.str m c)) (.fail "")) (fun m c => κ (.str m c)) y) (.fail "")=_
    rw [Nat.beq_refl, Ac, EF, H7 k1, Gp (by rw [List.length_map]; omega), List.drop_zero, List.take_of_length_le (by rw [List.length_map]; omega)]; rfl
  refine ⟨h2, ?_, fun q hq => (k2 q (K4.ne_of_lt hq)).trans (f1 q (K4.ne_of_lt hq)), fun hf q hq => (k2 q (K4.ne_of_lt (by omega)).symm).trans ((f1 q (K4.ne_of_lt (by omega)).symm).trans (hf q (by omega)))⟩
  rw [call2_at, show C5 ⟨.d0, .d5, .d0⟩ tab=some x80 from rfl, x80_L, x80L]
  simp (config := {maxSteps := 3000000}) (disch := omega) only [qa,g0,g1,g2,g3,g4,g5,g6,g7,g8,g9,BC,BF,C0,BR,BI,BK,BM,BY,BT,BU,w0,w1,w2,w3,w4,w5,w6,w7,w8,w9,BD,BB,BS,BP,BV,BQ,BH,BO,BL,BN,Mk,Nat.reduceAdd,Nat.reduceSub,Nat.reduceMul,Nat.reduceMod,Nat.reduceDiv,Q0,U,en3,es,h1e,e9,hb2,Am,Av,AN,AP,AO,AQ]
noncomputable def gsL (c:DZ):S->Heap->K4->R := fun t h n=>g6 t fun zi=>g3 t fun zj=>AR zi zj fun zk=>AY zk (Aj 1 (g0 t fun zl=>g1 t fun zm=>Ai (c ⟨.d0,.d7,.d10⟩ [zl,zm] h n) fun zn h n=>AR zn (iI 0) fun zo=>AY zo (.ok (.exit 0) t h n)<|g5 t fun zp=>g2 t fun zq=>Ap zn zq fun zr=>CB zl none (some zr) fun zs=>Bl 1 zp zi fun zt=>Bb zt zs h fun h=>B0 zm fun zu=>Ap zn zu fun zv=>CB zl (some zv) none fun zw=>Ap zi (iI 1) fun zx=>w0 t zw fun t=>w6 t zx fun t=>nR t h n) fun t h n=>nR t h n)<|.ok (.exit 0) t h n
noncomputable def x109L:Ent := .code en4 (fun c t h n=>g3 t fun z1=>AW z1 (iI 0) fun z2=>AY z2 (w4 t (.nil .sl) fun t=>rT t h n)<|g1 t fun z3=>AW z3 (.str 0 0) fun z4=>AY z4 (g0 t fun z5=>Ai (c ⟨.d0,.d7,.d8⟩ [z5,z1] h n) fun z6 h n=>w4 t z6 fun t=>rT t h n)<|AR z1 (iI 0) fun z7=>Br (AY z7 (g0 t fun z8=>Ai (c ⟨.d0,.d7,.d9⟩ [z8,z3] h n) fun z9 h n=>Ap z9 (iI 1) fun za=>w3 t za fun t=>w4 t (.nil .sl) fun t=>nR t h n) (w4 t (.nil .sl) fun t=>nR t h n)) fun t h n=>g3 t fun zb=>g0 t fun zc=>B0 zc fun zd=>Ap zd (iI 1) fun ze=>JA zb ze fun zf=>FU 16 false [(.str 0 0)] zf zf h n fun zg h n=>C7 zf (iI 1) fun zh=>Aj 0 (w3 t zh fun t=>w5 t zg fun t=>w6 t (iI 0) fun t=>Bd (gsL c) t h n) fun t h n=>g5 t fun zy=>g6 t fun zz=>g0 t fun z10=>Bl 1 zy zz fun z11=>Bb z11 z10 h fun h=>Ap zz (iI 1) fun z12=>Cw 1 zy none (some z12) fun z13=>w4 t z13 fun t=>rT t h n) (fun t h n=>g4 t fun a0=>.rv a0 h n)
theorem x109_L:x109=x109L := rfl
theorem idx_one (c:UInt8):J8 c.toNat [c]=0 := by unfold J8 DP; rw [if_pos rfl]
theorem sindex_ok {m:Nat} {l:List UInt8} {c:UInt8} {h:Heap} {n:K4} (hl:l.length≤1000000000):Ar tab (m+3) ⟨.d0, .d7, .d12⟩ [sb l, sb [c]] h n = .rv (.int .i64 (J8 c.toNat l)) h n := by
  have e0 := ixByte_ok (m := m) (r := c.toNat) (l := l) (h := h) (n := n) hl
  have e2:∀ κ:V->R, AZ (sb [c]) (.int .i64 0) κ=κ (.int .u8 c.toNat) := fun κ => Ek (l := [c]) (i := 0) (Nat.one_pos) (show 1<9223372036854775808 by omega) κ
  have e3:∀ κ:V->R, B0 (sb [c]) κ=κ (.int .i64 1) := fun κ => Fe [c] (show 1<9223372036854775808 by omega) κ
  rw [call2_at, show C5 ⟨.d0, .d7, .d12⟩ tab=some x124 from rfl, x124]
  by_cases hc:[c]=l
  · subst hc
    rw [idx_one]
    simp (config := {maxSteps := 3000000}) (disch := omega) only [qa,g0,g1,g2,g3,g4,g5,g6,g7,g8,g9,BC,BF,C0,BR,BI,BK,BM,BY,BT,BU,w0,w1,w2,w3,w4,w5,w6,w7,w8,w9,BD,BB,BS,BP,BV,BQ,BH,BO,BL,BN,Mk,Nat.reduceAdd,Nat.reduceSub,Nat.reduceMul,Nat.reduceMod,Nat.reduceDiv,Q0,U,en1,e2,e3,Qf,Am,Av,AN,AP,AO,AQ]
  · simp (config := {maxSteps := 3000000}) (disch := omega) only [qa,g0,g1,g2,g3,g4,g5,g6,g7,g8,g9,BC,BF,C0,BR,BI,BK,BM,BY,BT,BU,w0,w1,w2,w3,w4,w5,w6,w7,w8,w9,BD,BB,BS,BP,BV,BQ,BH,BO,BL,BN,Mk,Nat.reduceAdd,Nat.reduceSub,Nat.reduceMul,Nat.reduceMod,Nat.reduceDiv,Q0,U,en1,e0,e2,e3,Qf,decide_eq_false hc,Am,Av,AN,AP,AO,AQ]
theorem index_ok {m:Nat} {l:List UInt8} {c:UInt8} {h:Heap} {n:K4} (hl:l.length≤1000000000):Ar tab (m+4) ⟨.d0, .d7, .d10⟩ [sb l, sb [c]] h n = .rv (.int .i64 (J8 c.toNat l)) h n := by
  have e4 := sindex_ok (m := m) (l := l) (c := c) (h := h) (n := n) hl
  rw [call2_at, show C5 ⟨.d0, .d7, .d10⟩ tab=some x122 from rfl, x122]
  simp (config := {maxSteps := 3000000}) (disch := omega) only [qa,g0,g1,g2,g3,g4,g5,g6,g7,g8,g9,BC,BF,C0,BR,BI,BK,BM,BY,BT,BU,w0,w1,w2,w3,w4,w5,w6,w7,w8,w9,BD,BB,BS,BP,BV,BQ,BH,BO,BL,BN,Mk,Nat.reduceAdd,Nat.reduceSub,Nat.reduceMul,Nat.reduceMod,Nat.reduceDiv,Q0,U,en1,e4]
theorem count_ok {m:Nat} {l:List UInt8} {c:UInt8} {h:Heap} {n:K4} (hl:l.length≤1000000000):Ar tab (m+2) ⟨.d0, .d7, .d9⟩ [sb l, sb [c]] h n = .rv (.int .i64 (Cc c.toNat l)) h n := by
  have e0:Ar tab (m+1) ⟨.d0, .d8, .d10⟩ [sb l, .int .u8 c.toNat] h n = .rv (.int .i64 (Cc c.toNat l)) h n := by
    rw [call2_at, show C5 ⟨.d0, .d8, .d10⟩ tab=some (.prim CP) from rfl]
    show KW (CP [sb l, .int .u8 c.toNat] h n)=_
    rw [pCt hl]; rfl
  have e2:∀ κ:V->R, AZ (sb [c]) (.int .i64 0) κ=κ (.int .u8 c.toNat) := fun κ => Ek (l := [c]) (i := 0) (Nat.one_pos) (show 1<9223372036854775808 by omega) κ
  have e3:∀ κ:V->R, B0 (sb [c]) κ=κ (.int .i64 1) := fun κ => Fe [c] (show 1<9223372036854775808 by omega) κ
  rw [call2_at, show C5 ⟨.d0, .d7, .d9⟩ tab=some x121 from rfl, x121]
  simp (config := {maxSteps := 3000000}) (disch := omega) only [qa,g0,g1,g2,g3,g4,g5,g6,g7,g8,g9,BC,BF,C0,BR,BI,BK,BM,BY,BT,BU,w0,w1,w2,w3,w4,w5,w6,w7,w8,w9,BD,BB,BS,BP,BV,BQ,BH,BO,BL,BN,Mk,Nat.reduceAdd,Nat.reduceSub,Nat.reduceMul,Nat.reduceMod,Nat.reduceDiv,Q0,U,en1,e0,e2,e3,Am,Av,AN,AP,AO,AQ]
theorem fIdx_cnt {r:Nat}:∀ {l:List UInt8}, DP r l=none->Cc r l=0
  | [], _ => rfl
  | x::l, h => by
    rw [DP] at h
    by_cases hx:x.toNat=r
    · rw [if_pos hx] at h; cases h
    · rw [if_neg hx] at h
      cases hf:DP r l with
      | none => rw [Cc, if_neg hx, fIdx_cnt hf]
      | some k => rw [hf] at h; cases h
theorem fIdx_cnt_some {r:Nat}:∀ {l:List UInt8} {j:Nat}, DP r l=some j->Cc r l=Cc r (l.drop (j+1))+1
  | [], j, h => by cases h
  | x::l, j, h => by
    rw [DP] at h
    by_cases hx:x.toNat=r
    · rw [if_pos hx] at h; cases h
      rw [Cc, if_pos hx]; show 1+Cc r l=Cc r l+1; omega
    · rw [if_neg hx] at h
      cases hf:DP r l with
      | none => rw [hf] at h; cases h
      | some k =>
        rw [hf] at h; cases h
        rw [Cc, if_neg hx, fIdx_cnt_some hf, Nat.zero_add]; rfl
theorem cnt_le (r:Nat):∀ l:List UInt8, Cc r l≤l.length
  | [] => Nat.le_refl _
  | x::l => by
    rw [Cc, List.length_cons]
    have := cnt_le r l
    by_cases hx:x.toNat=r
    · rw [if_pos hx]; omega
    · rw [if_neg hx]; omega
/-- What stands ahead of the first such byte, and behind it. -/
def cutB (c:UInt8) (l:List UInt8):List UInt8×List UInt8×Bool := match DP c.toNat l with
  | some j => (l.take j, l.drop (j+1), true)
  | none => (l, [], false)
theorem cut_ok {m:Nat} {l:List UInt8} {c:UInt8} {h:Heap} {n:K4} (hl:l.length<900000000):Ar tab (m+5) ⟨.d0, .d6, .d0⟩ [sb l, sb [c]] h n = .rv (.tup [sb (cutB c l).1, sb (cutB c l).2.1, .bool (cutB c l).2.2]) h n := by
  have e4 := sindex_ok (m := m) (l := l) (c := c) (h := h) (n := n) (by omega)
  have e3:∀ κ:V->R, B0 (sb [c]) κ=κ (.int .i64 1) := fun κ => Fe [c] (show 1<9223372036854775808 by omega) κ
  have e5:Ar tab (m+4) ⟨.d0, .d7, .d0⟩ [sb l, sb [c]] h n = .rv (.tup [sb (cutB c l).1, sb (cutB c l).2.1, .bool (cutB c l).2.2]) h n := by
    rw [call2_at, show C5 ⟨.d0, .d7, .d0⟩ tab=some x112 from rfl, x112]
    unfold J8 at e4
    unfold cutB
    cases hf:DP c.toNat l with
    | none =>
      rw [hf] at e4
      have hm1:DK .i64 18446744073709551615 0=true := Ls (by decide) (by decide)
      simp (config := {maxSteps := 3000000}) (disch := omega) only [qa,g0,g1,g2,g3,g4,g5,g6,g7,g8,g9,BC,BF,C0,BR,BI,BK,BM,BY,BT,BU,w0,w1,w2,w3,w4,w5,w6,w7,w8,w9,BD,BB,BS,BP,BV,BQ,BH,BO,BL,BN,Mk,Nat.reduceAdd,Nat.reduceSub,Nat.reduceMul,Nat.reduceMod,Nat.reduceDiv,Q0,U,en1,e4,hm1,Am,Av,AN,AP,AO,AQ]
      rfl
    | some j =>
      rw [hf] at e4
      have hj := JM hf
      have e6 := fun κ => MX (l := l) (k := j) (by omega) (by omega) κ
      have e7 := fun κ => N1 (l := l) (k := j+1) (by omega) (by omega) κ
      simp (config := {maxSteps := 3000000}) (disch := omega) only [qa,g0,g1,g2,g3,g4,g5,g6,g7,g8,g9,BC,BF,C0,BR,BI,BK,BM,BY,BT,BU,w0,w1,w2,w3,w4,w5,w6,w7,w8,w9,BD,BB,BS,BP,BV,BQ,BH,BO,BL,BN,Mk,Nat.reduceAdd,Nat.reduceSub,Nat.reduceMul,Nat.reduceMod,Nat.reduceDiv,Q0,U,en1,e4,e3,e6,e7,Am,Av,AN,AP,AO,AQ]
  rw [call2_at, show C5 ⟨.d0, .d6, .d0⟩ tab=some x96 from rfl, x96]
  simp (config := {maxSteps := 3000000}) (disch := omega) only [qa,g0,g1,g2,g3,g4,g5,g6,g7,g8,g9,BC,BF,C0,BR,BI,BK,BM,BY,BT,BU,w0,w1,w2,w3,w4,w5,w6,w7,w8,w9,BD,BB,BS,BP,BV,BQ,BH,BO,BL,BN,Mk,Nat.reduceAdd,Nat.reduceSub,Nat.reduceMul,Nat.reduceMod,Nat.reduceDiv,Q0,U,en1,e5]
theorem repK_1 (z:V):∀ (m:Nat) (κ:List V->R), TD m [z] κ=κ (List.replicate m z)
  | 0, κ => rfl
  | m+1, κ => by
    show TD m [z] (fun zs => EH [z] zs κ)=_
    rw [repK_1 z m, DA]; rfl
theorem mks_c {n:K4} (hn:n.toN<65535) {a:Nat} (ha:a<1000000000) (z:V) (h:Heap) (κ:KV):FU 16 false [z] (.int .i64 a) (.int .i64 a) h n κ=κ (.sl n 0 a a true 1) (Af n h (some (.c (.l (List.replicate a z)) false none))) n.up := by
  show br (Nat.ble (Nat.succ a) 9223372036854775808) (br (Nat.ble (Nat.succ a) 9223372036854775808) (br (Nat.ble a a) (br (Nat.ble (Nat.mul 16 a) 281474976710656) (TD a [z] fun zs => ET h n (.c (.l zs) false none) fun h' n' => Ab (Nat.succ 0) fun esz => κ (.sl n 0 a a true esz) h' n') (.fail "")) (.fail "")) _) _=_
  rw [show Nat.ble (Nat.succ a) 9223372036854775808=true from Aa.2 (by omega), Ac, Ac, show Nat.ble a a=true from Aa.2 (Nat.le_refl _), Ac, show Nat.ble (Nat.mul 16 a) 281474976710656=true from Aa.2 (by show 16*a≤_; omega), Ac, repK_1, EB hn, A9]
/-- The parts between such bytes. -/
def splitN (c:UInt8):Nat->List UInt8->List (List UInt8)
  | 0, l => [l]
  | k+1, l => match DP c.toNat l with
    | some j => l.take j::splitN c k (l.drop (j+1))
    | none => [l]
def splitB (c:UInt8) (l:List UInt8):List (List UInt8) := splitN c (Cc c.toNat l) l
theorem gs_loop {m:Nat} {c:UInt8} {d7:V} {c2 c3 c4 c5 c6 c7:SQ} {p n:K4} {N:Nat} (hN:N<1000000000):∀ (k i:Nat) (s:List UInt8) (dn:List V) (h:Heap), Cc c.toNat s=k->i+k+1=N->dn.length=i->s.length<900000000->A8 p h=some (.c (.l (dn++List.replicate (N - i) (.str 0 0))) false none) →
    ∃ h' s' dn', (∀ K, Jy (gsL (Ar tab (m+4))) (K+k+1) (.mk (.mk (sb s) (sb [c]) (.int .i64 0) (.int .i64 (N - 1))) (.mk (.nil .sl) (.sl p 0 N N true 1) (.int .i64 i) d7) c2 c3 c4 c5 c6 c7) h n = .ok (.exit 0) (.mk (.mk (sb s') (sb [c]) (.int .i64 0) (.int .i64 (N - 1))) (.mk (.nil .sl) (.sl p 0 N N true 1) (.int .i64 (N - 1)) d7) c2 c3 c4 c5 c6 c7) h' n) ∧
      A8 p h'=some (.c (.l (dn'++[.str 0 0])) false none)∧dn'.length=N - 1∧dn'++[sb s']=dn++(splitN c k s).map sb∧(∀ q:K4, q≠p->A8 q h'=A8 q h) := by
  intro k
  induction k with
  | zero =>
    intro i s dn h hc hi hd hs hp
    obtain rfl:i=N - 1 := by omega
    refine ⟨h, s, dn, fun K => ?_, by rw [hp, show N - (N - 1)=1 by omega]; rfl, hd, rfl, fun q _ => rfl⟩
    rw [Cg]
    unfold gsL
    simp (config := {maxSteps := 3000000}) (disch := omega) only [qa,g0,g1,g2,g3,g4,g5,g6,g7,g8,g9,BC,BF,C0,BR,BI,BK,BM,BY,BT,BU,w0,w1,w2,w3,w4,w5,w6,w7,w8,w9,BD,BB,BS,BP,BV,BQ,BH,BO,BL,BN,Mk,Nat.reduceAdd,Nat.reduceSub,Nat.reduceMul,Nat.reduceMod,Nat.reduceDiv,Q0,U,Am,Av,AN,AP,AO,AQ]
  | succ k ih =>
    intro i s dn h hc hi hd hs hp
    have e0 := index_ok (m := m) (l := s) (c := c) (h := h) (n := n) (by omega)
    unfold J8 at e0
    cases hf:DP c.toNat s with
    | none => have := fIdx_cnt hf; omega
    | some j =>
      have hj := JM hf
      have hcs := fIdx_cnt_some hf
      rw [hf] at e0
      have e3:∀ κ:V->R, B0 (sb [c]) κ=κ (.int .i64 1) := fun κ => Fe [c] (show 1<9223372036854775808 by omega) κ
      have e6 := fun κ => MX (l := s) (k := j) (by omega) (by omega) κ
      have e7 := fun κ => N1 (l := s) (k := j+1) (by omega) (by omega) κ
      have hln:(dn++List.replicate (N - i) (V.str 0 0)).length=N := by rw [List.length_append, List.length_replicate, hd]; omega
      have hset:(dn++List.replicate (N - i) (V.str 0 0)).set i (sb (s.take j))=(dn++[sb (s.take j)])++List.replicate (N - (i+1)) (.str 0 0) := by
        rw [List.set_append_right _ _ (by omega), hd, Nat.sub_self, show N - i=(N - (i+1))+1 by omega, List.replicate_succ, List.append_assoc]; rfl
      obtain ⟨h1, h1e⟩:∃ x, Af p h (some (.c (.l ((dn++[sb (s.take j)])++List.replicate (N - (i+1)) (.str 0 0))) false none))=x := ⟨_, rfl⟩
      have est:∀ κ:Heap->R, Bb (.ptr p i) (sb (s.take j)) h κ=κ h1 := fun κ => by
        refine (DB h p i _ κ).trans ?_
        rw [hp, NE, show Nat.ble (i+1) (dn++List.replicate (N - i) (V.str 0 0)).length=true from Aa.2 (by rw [hln]; omega), hset]
        exact congrArg κ h1e
      obtain ⟨h', s', dn', e, k1, k2, k3, k4⟩ := ih (i+1) (s.drop (j+1)) (dn++[sb (s.take j)]) h1 (by omega) (by omega) (by rw [List.length_append, hd]; rfl) (by rw [List.length_drop]; omega) (by rw [←h1e, A6])
      refine ⟨h', s', dn', fun K => ?_, k1, k2, ?_, fun q hq => (k4 q hq).trans (by rw [←h1e]; exact A7 _ _ (Ne.symm hq))⟩
      · rw [show K+(k+1)+1=(K+k+1)+1 by omega, Cg, ←e K]
        unfold gsL
        simp (config := {maxSteps := 3000000}) (disch := omega) only [qa,g0,g1,g2,g3,g4,g5,g6,g7,g8,g9,BC,BF,C0,BR,BI,BK,BM,BY,BT,BU,w0,w1,w2,w3,w4,w5,w6,w7,w8,w9,BD,BB,BS,BP,BV,BQ,BH,BO,BL,BN,Mk,Nat.reduceAdd,Nat.reduceSub,Nat.reduceMul,Nat.reduceMod,Nat.reduceDiv,Q0,U,e0,e3,e6,e7,est,Nat.add_zero,Am,Av,AN,AP,AO,AQ]
      · rw [k3, splitN, hf, List.append_assoc]; rfl
theorem splitN_len {c:UInt8}:∀ (k:Nat) (l:List UInt8), Cc c.toNat l=k->(splitN c k l).length=k+1
  | 0, l, _ => rfl
  | k+1, l, h => by
    rw [splitN]
    cases hf:DP c.toNat l with
    | none => have := fIdx_cnt hf; omega
    | some j =>
      have := fIdx_cnt_some hf
      show (splitN c k (l.drop (j+1))).length+1=_
      rw [splitN_len k _ (by omega)]
theorem split_ok {m:Nat} {c:UInt8} {l:List UInt8} {h:Heap} {n:K4} (hl:l.length<900000000) (hn:n.toN<60000) :
    ∃ h', Ar tab (m+6) ⟨.d0, .d5, .d13⟩ [sb l, sb [c]] h n = .rv (.sl n 0 (splitB c l).length (splitB c l).length true 1) h' n.up∧A8 n h'=some (.c (.l ((splitB c l).map sb)) false none)∧(∀ q:K4, q.toN<n.toN->A8 q h'=A8 q h)∧(Bc h n->Bc h' n.up) := by
  have u1 := K4.up_toN (p := n) (by omega)
  have hc := cnt_le c.toNat l
  have hsl:(splitB c l).length=Cc c.toNat l+1 := splitN_len _ l rfl
  have e1 := fun κ => Fe l (by omega) κ
  have ec := count_ok (m := m+2) (l := l) (c := c) (h := h) (n := n) (by omega)
  have hne:¬ [c]=([]:List UInt8) := by simp
  have emk := fun κ => mks_c (n := n) (by omega) (a := Cc c.toNat l+1) (by omega) (.str 0 0) h κ
  obtain ⟨h1, h1e⟩:∃ x, Af n h (some (.c (.l (List.replicate (Cc c.toNat l+1) (.str 0 0))) false none))=x := ⟨_, rfl⟩
  have f1:∀ q:K4, q≠n->A8 q h1=A8 q h := fun q hq => by rw [←h1e]; exact A7 _ _ hq.symm
  obtain ⟨h2, s', dn', e, k1, k2, k3, k4⟩ := gs_loop (m := m) (c := c) (d7 := Ay) (c2 := Q0) (c3 := Q0) (c4 := Q0) (c5 := Q0) (c6 := Q0) (c7 := Q0) (p := n) (n := n.up) (N := Cc c.toNat l+1) (by omega) (Cc c.toNat l) 0 l [] h1 rfl (by omega) rfl hl (by rw [←h1e, A6]; rfl)
  have e9 := e (999999999 - Cc c.toNat l)
  rw [show 999999999 - Cc c.toNat l+Cc c.toNat l+1=999999999+1 by omega, Cg, ←Cu, Nat.add_sub_cancel] at e9
  simp only [Q0] at e9
  obtain ⟨h3, h3e⟩:∃ x, Af n h2 (some (.c (.l (dn'++[sb s'])) false none))=x := ⟨_, rfl⟩
  have est:∀ κ:Heap->R, Bb (.ptr n (Cc c.toNat l)) (sb s') h2 κ=κ h3 := fun κ => by
    refine (DB h2 n _ _ κ).trans ?_
    rw [k1, NE, show Nat.ble (Cc c.toNat l+1) (dn'++[V.str 0 0]).length=true from Aa.2 (by rw [List.length_append, k2]; show _≤_+1; omega), List.set_append_right _ _ (by omega), k2, show Cc c.toNat l - (Cc c.toNat l+1 - 1)=0 by omega]
    exact congrArg κ h3e
  have e4:Ar tab (m+5) ⟨.d0, .d6, .d13⟩ [sb l, sb [c], .int .i64 0, .int .i64 18446744073709551615] h n = .rv (.sl n 0 (Cc c.toNat l+1) (Cc c.toNat l+1) true 1) h3 n.up := by
    have hm1:DK .i64 18446744073709551615 0=true := Ls (by decide) (by decide)
    have hmin:∀ κ:V->R, JA (.int .i64 (Cc c.toNat l+1)) (.int .i64 (l.length+1)) κ=κ (.int .i64 (Cc c.toNat l+1)) := fun κ => by
      rw [QW (by omega) (by omega), RE (by omega) (by omega)]
      rcases Nat.lt_or_ge (Cc c.toNat l+1) (l.length+1) with hx | hx
      · first
        | (rw [decide_eq_true (by omega)]; rfl)
        | (rw [decide_eq_false (by omega)]; rfl)
      · have:Cc c.toNat l=l.length := by omega
        rw [this]; cases decide (l.length+1<l.length+1) <;> rfl
    have hsx := fun κ => Vq (p := n) (o := 0) (len := Cc c.toNat l+1) (cap := Cc c.toNat l+1) (b := Cc c.toNat l+1) (ex := true) (by omega) (by omega) κ
    rw [call2_at, show C5 ⟨.d0, .d6, .d13⟩ tab=some x109 from rfl, x109_L, x109L]
    simp (config := {maxSteps := 3000000}) (disch := omega) only [qa,g0,g1,g2,g3,g4,g5,g6,g7,g8,g9,BC,BF,C0,BR,BI,BK,BM,BY,BT,BU,w0,w1,w2,w3,w4,w5,w6,w7,w8,w9,BD,BB,BS,BP,BV,BQ,BH,BO,BL,BN,Mk,Nat.reduceAdd,Nat.reduceSub,Nat.reduceMul,Nat.reduceMod,Nat.reduceDiv,Q0,U,en4,MB,decide_eq_false hne,hm1,ec,e1,hmin,emk,h1e,e9,est,hsx,Nat.add_zero,Nat.add_sub_cancel,Am,Av,AN,AP,AO,AQ]
  refine ⟨h3, ?_, by rw [←h3e, A6, k3]; rfl, fun q hq => ?_, fun hf q hq => ?_⟩
  · rw [call2_at, show C5 ⟨.d0, .d5, .d13⟩ tab=some x93 from rfl, x93, hsl]
    simp (config := {maxSteps := 3000000}) (disch := omega) only [qa,g0,g1,g2,g3,g4,g5,g6,g7,g8,g9,BC,BF,C0,BR,BI,BK,BM,BY,BT,BU,w0,w1,w2,w3,w4,w5,w6,w7,w8,w9,BD,BB,BS,BP,BV,BQ,BH,BO,BL,BN,Mk,Nat.reduceAdd,Nat.reduceSub,Nat.reduceMul,Nat.reduceMod,Nat.reduceDiv,Q0,U,en1,e4,Am,Av,AN,AP,AO,AQ]
  · rw [←h3e, GA hq, k4 q (K4.ne_of_lt hq), f1 q (K4.ne_of_lt hq)]
  · rw [←h3e, Gu (by omega), k4 q (K4.ne_of_lt (by omega)).symm, f1 q (K4.ne_of_lt (by omega)).symm]; exact hf q (by omega)
theorem fIdx_app {r:Nat} {c:UInt8} (hc:c.toNat=r) (b:List UInt8):∀ {a:List UInt8}, (∀ x∈a, ¬ x.toNat=r)->DP r (a++c::b)=some a.length
  | [], _ => by show DP r (c::b)=_; rw [DP, if_pos hc]; rfl
  | x::a, h => by
    show DP r (x::(a++c::b))=_
    rw [DP, if_neg (h x (List.mem_cons_self ..)), fIdx_app hc b fun y hy => h y (List.mem_cons_of_mem _ hy)]; rfl
theorem cnt_no {r:Nat}:∀ {l:List UInt8}, (∀ x∈l, ¬ x.toNat=r)->Cc r l=0
  | [], _ => rfl
  | x::l, h => by
    rw [Cc, if_neg (h x (List.mem_cons_self ..)), cnt_no fun y hy => h y (List.mem_cons_of_mem _ hy)]
theorem cnt_app (r:Nat) (b:List UInt8):∀ a:List UInt8, Cc r (a++b)=Cc r a+Cc r b
  | [] => by rw [List.nil_append, Cc, Nat.zero_add]
  | x::a => by rw [List.cons_append, Cc, Cc, cnt_app r b a, Nat.add_assoc]
theorem cut_app {c:UInt8} {a b:List UInt8} (h:∀ x∈a, ¬ x.toNat=c.toNat):cutB c (a++c::b)=(a, b, true) := by
  unfold cutB
  rw [fIdx_app rfl b h]
  show (List.take a.length (a++c::b), List.drop (a.length+1) (a++c::b), true)=_
  rw [List.take_left, ←List.drop_drop, List.drop_left]; rfl
theorem split_3 {c:UInt8} {a b d:List UInt8} (ha:∀ x∈a, ¬ x.toNat=c.toNat) (hb:∀ x∈b, ¬ x.toNat=c.toNat) (hd:∀ x∈d, ¬ x.toNat=c.toNat):splitB c (a++c::(b++c::d))=[a, b, d] := by
  unfold splitB
  have e1:Cc c.toNat (a++c::(b++c::d))=2 := by
    rw [cnt_app, cnt_no ha, Cc, if_pos rfl, cnt_app, cnt_no hb, Cc, if_pos rfl, cnt_no hd]
  rw [e1, splitN, fIdx_app rfl _ ha]
  show List.take a.length (a++c::(b++c::d))::splitN c 1 (List.drop (a.length+1) (a++c::(b++c::d)))=_
  rw [List.take_left, ←List.drop_drop, List.drop_left, show List.drop 1 (c::(b++c::d))=b++c::d from rfl, splitN, fIdx_app rfl _ hb]
  show a::List.take b.length (b++c::d)::splitN c 0 (List.drop (b.length+1) (b++c::d))=_
  rw [List.take_left, ←List.drop_drop, List.drop_left]; rfl
theorem tokB_no {l:List UInt8} {r:Nat} (h:tokB l=true) (h1:letterB r=false) (h2:signB r=false):∀ x∈l, ¬ x.toNat=r := by
  intro x hx e
  unfold tokB at h
  have := List.all_eq_true.1 (Bool.and_eq_true_iff.1 h).1 x hx
  unfold tokC at this
  rw [e, h1, h2] at this
  cases this
theorem tarB_no {l:List UInt8} {r:Nat} (h:tarB l=true) (h1:r<33):∀ x∈l, ¬ x.toNat=r := by
  intro x hx e
  unfold tarB at h
  have := List.all_eq_true.1 (Bool.and_eq_true_iff.1 h).1 x hx
  unfold tarC at this
  have := of_decide_eq_true this
  omega
/-- The version's text. -/
def verL:List UInt8 := [72, 84, 84, 80, 47, 49, 46, 49]
theorem verL_e:sb verL = .str 8 3543824036068086856 := by kernel_rfl
theorem st1_l {p:K4} {h:Heap} {l:List V} {i:Nat} {x:V} (hp:A8 p h=some (.c (.l l) false none)) (hi:i<l.length) (κ:Heap->R):I4 h p i x κ=κ (Af p h (some (.c (.l (l.set i x)) false none))) := by
  rw [DB, hp, NE, show Nat.ble (i+1) l.length=true from Aa.2 hi]; rfl
theorem ne3 (κ:V->R):B4 (.int .i64 3) (.int .i64 3) κ=κ (.bool false) := id rfl
theorem line1_ok {m:Nat} {h:Heap} {n p:K4} {a b:V} {me ta:List UInt8} {c d:V} (hp:A8 p h=some (.c (.l [a, b, c, d, .bool false]) false none)) (hpn:p.toN<n.toN) (h1:tokB me=true) (h2:tarB ta=true) (hl:me.length+ta.length<800000000) (hn:n.toN<59000) :
    ∃ h', Ar tab (m+7) ⟨.d0, .d4, .d14⟩ [.ptr p 0, sb (me++32::(ta++32::verL))] h n = .rv (.bool true) h' n.up∧A8 p h'=some (.c (.l [sb me, sb ta, c, d, .bool true]) false none)∧(∀ q:K4, q.toN<n.toN->q≠p->A8 q h'=A8 q h)∧(Bc h n->Bc h' n.up) := by
  have u1 := K4.up_toN (p := n) (by omega)
  obtain ⟨hh, hhe⟩:∃ x, Af p h (some (.c (.l [a, b, c, d, .bool true]) false none))=x := ⟨_, rfl⟩
  have f0:∀ q:K4, q≠p->A8 q hh=A8 q h := fun q hq => by rw [←hhe]; exact A7 _ _ hq.symm
  have y0:A8 p hh=some (.c (.l [a, b, c, d, .bool true]) false none) := by rw [←hhe]; exact A6 _ _ _
  obtain ⟨h2', e2, k1, k2, k3⟩ := split_ok (m := m) (c := 32) (l := me++32::(ta++32::verL)) (h := hh) (n := n) (by simp only [List.length_append,List.length_cons]; show _+(_+(8+1)+1)<_; omega) (by omega)
  rw [split_3 (tokB_no h1 (by decide) (by decide)) (tarB_no h2 (by decide)) (by decide)] at e2 k1
  have e3 := token_ok (m := m+2) (l := me) (h := h2') (n := n.up) (by omega)
  have e4 := target_ok (m := m+5) (l := ta) (h := h2') (n := n.up) (by omega)
  have e5 := fun κ => TI verL verL κ
  rw [verL_e] at e5
  rw [h1] at e3
  rw [h2] at e4
  have y2:A8 p h2'=some (.c (.l [a, b, c, d, .bool true]) false none) := (k2 p hpn).trans y0
  obtain ⟨h3, h3e⟩:∃ x, Af p h2' (some (.c (.l [sb me, b, c, d, .bool true]) false none))=x := ⟨_, rfl⟩
  have y3:A8 p h3=some (.c (.l [sb me, b, c, d, .bool true]) false none) := by rw [←h3e]; exact A6 _ _ _
  obtain ⟨h4, h4e⟩:∃ x, Af p h3 (some (.c (.l [sb me, sb ta, c, d, .bool true]) false none))=x := ⟨_, rfl⟩
  have es1:∀ κ:Heap->R, Bb (.ptr p 0) (sb me) h2' κ=κ h3 := fun κ => (st1_l y2 (by show 0<5; omega) κ).trans (by rw [←h3e]; rfl)
  have es2:∀ κ:Heap->R, Bb (.ptr p 1) (sb ta) h3 κ=κ h4 := fun κ => (st1_l y3 (by show 1<5; omega) κ).trans (by rw [←h4e]; rfl)
  have hm:[me, ta, verL].map sb=[sb me, sb ta, sb verL] := rfl
  rw [hm, verL_e] at k1
  have hln:[me, ta, verL].length=3 := rfl
  rw [hln, show sb [32] = .str 1 32 from rfl] at e2
  refine ⟨h4, ?_, by rw [←h4e]; exact A6 _ _ _, fun q hq hqp => ?_, fun hf q hq => ?_⟩
  · rw [call2_at, show C5 ⟨.d0, .d4, .d14⟩ tab=some x78 from rfl, x78]
    simp (config := {maxSteps := 3000000}) (disch := omega) only [qa,g0,g1,g2,g3,g4,g5,g6,g7,g8,g9,BC,BF,C0,BR,BI,BK,BM,BY,BT,BU,w0,w1,w2,w3,w4,w5,w6,w7,w8,w9,BD,BB,BS,BP,BV,BQ,BH,BO,BL,BN,Mk,Nat.reduceAdd,Nat.reduceSub,Nat.reduceMul,Nat.reduceMod,Nat.reduceDiv,Q0,U,en1,hp,hhe,e2,k1,e3,e4,e5,es1,es2,ne3,Am,Av,AN,AP,AO,AQ]
  · rw [←h4e, A7 _ _ (Ne.symm hqp), ←h3e, A7 _ _ (Ne.symm hqp), k2 q hq, f0 q hqp]
  · have hqp:q≠p := (K4.ne_of_lt (by omega)).symm
    rw [←h4e, A7 _ _ (Ne.symm hqp), ←h3e, A7 _ _ (Ne.symm hqp)]
    exact k3 (fun r hr => (f0 r (K4.ne_of_lt (by omega)).symm).trans (hf r hr)) q hq
theorem line2_ok {m:Nat} {h:Heap} {n p:K4} {a b d:V} {nm v w:List UInt8} (hp:A8 p h=some (.c (.l [a, b, .nil .sl, d, .bool true]) false none)) (hpn:p.toN<n.toN) (h1:tokB nm=true) (h2:trimB v=w) (h3:valB w=true) (hl:nm.length+v.length<800000000) (hw:w.length<800000000) (hn:n.toN<59000) :
    ∃ h', Ar tab (m+6) ⟨.d0, .d4, .d14⟩ [.ptr p 0, sb (nm++58::v)] h n = .rv (.bool true) h' n.up.up∧A8 p h'=some (.c (.l [a, b, .sl n.up 0 1 1 false 2, d, .bool true]) false none)∧A8 n.up h'=some (.c (.l [sb nm, sb w]) false none)∧(∀ q:K4, q.toN<n.toN->q≠p->A8 q h'=A8 q h)∧(Bc h n->Bc h' n.up.up) := by
  have u1 := K4.up_toN (p := n) (by omega)
  have u2 := K4.up_toN (p := n.up) (by omega)
  have e1 := cut_ok (m := m) (c := 58) (l := nm++58::v) (h := h) (n := n) (by simp only [List.length_append,List.length_cons]; omega)
  rw [cut_app (tokB_no h1 (by decide) (by decide)), show sb [58] = .str 1 58 from rfl] at e1
  have e2 := trim_ok (m := m+3) (l := v) (h := h) (n := n) (by omega)
  rw [h2] at e2
  have e3 := token_ok (m := m+1) (l := nm) (h := h) (n := n) (by omega)
  rw [h1] at e3
  have e4 := value_ok (m := m+3) (l := w) (h := h) (n := n) (by omega)
  rw [h3] at e4
  obtain ⟨j1, j1e⟩:∃ x, Af n h (some (.c (.l [sb nm, sb w]) false none))=x := ⟨_, rfl⟩
  have f1:∀ q:K4, q≠n->A8 q j1=A8 q h := fun q hq => by rw [←j1e]; exact A7 _ _ hq.symm
  have y1:A8 n j1=some (.c (.l [sb nm, sb w]) false none) := by rw [←j1e]; exact A6 _ _ _
  obtain ⟨j2, j2e⟩:∃ x, Af n.up j1 (some (.c (.l [sb nm, sb w]) false none))=x := ⟨_, rfl⟩
  have f2:∀ q:K4, q≠n.up->A8 q j2=A8 q j1 := fun q hq => by rw [←j2e]; exact A7 _ _ hq.symm
  have y2:A8 n.up j2=some (.c (.l [sb nm, sb w]) false none) := by rw [←j2e]; exact A6 _ _ _
  obtain ⟨j3, j3e⟩:∃ x, Af p j2 (some (.c (.l [a, b, .sl n.up 0 1 1 false 2, d, .bool true]) false none))=x := ⟨_, rfl⟩
  have yp:A8 p j2=some (.c (.l [a, b, .nil .sl, d, .bool true]) false none) := by rw [f2 p (K4.ne_of_lt (by omega)), f1 p (K4.ne_of_lt hpn), hp]
  have eb:∀ κ:KV, CN false 1 2 [sb nm, sb w] h n κ=κ (.sl n 0 1 1 true 2) j1 n.up := fun κ => (N6 (by omega) 1 2 _ h κ).trans (by rw [j1e])
  have ep:∀ κ:List V->R, FQ 0 2 (.agg [sb nm, sb w]) [.str 0 0, .str 0 0] κ=κ [sb nm, sb w] := fun κ => rfl
  have ep0:∀ κ:List V->R, Ag 0 (sb nm) [.str 0 0, .str 0 0] κ=κ [sb nm, .str 0 0] := fun κ => rfl
  have ep1:∀ κ:List V->R, Ag 1 (sb w) [sb nm, .str 0 0] κ=κ [sb nm, sb w] := fun κ => rfl
  have er:∀ κ:Cs->R, Ry (some (.c (.l [sb nm, sb w]) false none)) 0 2 κ=κ (.l [sb nm, sb w]) := fun κ => rfl
  have ea:∀ κ:KV, Dn 2 32 (.nil .sl) 1 (.l [sb nm, sb w]) j1 n.up κ=κ (.sl n.up 0 1 1 false 2) j2 n.up.up := fun κ => (Ps (by omega) (by omega) (by omega) _ _ _).trans (by rw [j2e])
  have yp1:A8 p j1=some (.c (.l [a, b, .nil .sl, d, .bool true]) false none) := by rw [f1 p (K4.ne_of_lt hpn), hp]
  have est:∀ κ:Heap->R, NM (some (.c (.l [a, b, .nil .sl, d, .bool true]) false none)) j2 p 2 (.sl n.up 0 1 1 false 2) κ=κ (Af p j2 (some (.c (.l [a, b, .sl n.up 0 1 1 false 2, d, .bool true]) false none))) := fun κ => rfl
  refine ⟨j3, ?_, by rw [←j3e]; exact A6 _ _ _, by rw [←j3e, A7 _ _ (K4.ne_of_lt (by omega))]; exact y2, fun q hq hqp => ?_, fun hf q hq => ?_⟩
  · rw [call2_at, show C5 ⟨.d0, .d4, .d14⟩ tab=some x78 from rfl, x78]
    simp (config := {maxSteps := 3000000}) (disch := omega) only [qa,g0,g1,g2,g3,g4,g5,g6,g7,g8,g9,BC,BF,C0,BR,BI,BK,BM,BY,BT,BU,w0,w1,w2,w3,w4,w5,w6,w7,w8,w9,BD,BB,BS,BP,BV,BQ,BH,BO,BL,BN,Mk,Nat.reduceAdd,Nat.reduceSub,Nat.reduceMul,Nat.reduceMod,Nat.reduceDiv,Q0,U,en1,hp,e1,e2,e3,e4,ep0,ep1,ep,er,j1e,y1,yp,j2e,est,j3e,Am,Av,AN,AP,AO,AQ]
  · rw [←j3e, A7 _ _ (Ne.symm hqp), f2 q (K4.ne_of_lt (by omega)), f1 q (K4.ne_of_lt hq)]
  · rw [←j3e, A7 _ _ (K4.ne_of_lt (by omega)), f2 q (K4.ne_of_lt (by omega)).symm, f1 q (K4.ne_of_lt (by omega)).symm]
    exact hf q (by omega)
noncomputable def heL (c:DZ):S->Heap->K4->R := fun t h n=>BC t fun z5=>g9 t fun z6=>AR z5 z6 fun z7=>AY z7 (Aj 1 (g8 t fun z8=>Bl 1 z8 z5 fun z9=>Az z9 h fun za=>C3 z5 (iI 0) fun zb=>g0 t fun zc=>gK zb zc h n fun zd h n=>gK zb z5 h n fun ze h n=>gO zb h n (fun k=>C7 ze (iI 1) k) fun zf h n=>gO zb h n (fun k=>Bl 1 zd zf k) fun zg h n=>gO zb h n (fun k=>Az zg h k) fun zh h n=>gO zb h n (fun k=>AW zh (iB 13) k) fun zi h n=>AA zb zi (.bool false) fun zj=>Aj 2 (B4 za (iB 10) fun zk=>gK zk zj h n fun zl h n=>AA zk zl (.bool false) fun zm=>Br (AY zm (w6 t z5 fun t=>w7 t za fun t=>BB t zm fun t=>nR t h n) (AW za (iB 10) fun zn=>gK zn zj h n fun zo h n=>gO zn h n (fun k=>C6 zo k) fun zp h n=>AA zn zp (.bool false) fun zq=>w6 t z5 fun t=>w7 t za fun t=>BB t zq fun t=>nR t h n)) fun t h n=>BF t fun zr=>AY zr (g6 t fun zs=>Ai (c ⟨.d0,.d4,.d13⟩ [zs] h n) fun zt h n=>AU 0 zt fun zu=>AU 1 zt fun zv=>AU 2 zt fun zw=>g1 t fun zx=>Bn 4 zx zu h fun h=>w2 t zv fun t=>w3 t zw fun t=>rT t h n)<|g7 t fun zy=>B4 zy (iB 10) fun zz=>AY zz (.ok (.exit 1) t h n)<|nR t h n) fun t h n=>g0 t fun z10=>g5 t fun z11=>g6 t fun z12=>C7 z12 (iI 1) fun z13=>Cw 1 z10 (some z11) (some z13) fun z14=>C4 z14 h fun z15=>Ap z12 (iI 1) fun z16=>AW z15 (.str 0 0) fun z17=>g4 t fun z18=>gK z17 z18 h n fun z19 h n=>gO z17 h n (fun k=>Ah z19 k) fun z1a h n=>gO z17 h n (fun k=>Al 4 z1a k) fun z1b h n=>gO z17 h n (fun k=>Az z1b h k) fun z1c h n=>AA z17 z1c (.bool false) fun z1d=>AY z1d (C3 z16 (iI 2000) fun z1e=>AY z1e (g1 t fun z1f=>Bn 4 z1f (.agg [(.str 0 0),(.str 0 0),(.nil .sl),(.str 0 0)]) h fun h=>w2 t (iI 0) fun t=>w3 t (iI 9) fun t=>w5 t z16 fun t=>rT t h n)<|Ah z18 fun z1g=>Al 0 z1g fun z1h=>FM 4 z1h h fun z1i=>g1 t fun z1j=>Bn 4 z1j z1i h fun h=>w2 t z16 fun t=>w3 t (iI 0) fun t=>w5 t z16 fun t=>rT t h n)<|Ai (c ⟨.d0,.d4,.d14⟩ [z18,z15] h n) fun z1k h n=>C6 z1k fun z1l=>AY z1l (Ai (c ⟨.d0,.d4,.d13⟩ [z12] h n) fun z1m h n=>AU 0 z1m fun z1n=>AU 1 z1m fun z1o=>AU 2 z1m fun z1p=>g1 t fun z1q=>Bn 4 z1q z1n h fun h=>w2 t z1o fun t=>w3 t z1p fun t=>w5 t z16 fun t=>rT t h n)<|w5 t z16 fun t=>nR t h n) fun t h n=>BC t fun z1r=>Ap z1r (iI 1) fun z1s=>BD t z1s fun t=>nR t h n)<|.ok (.exit 0) t h n
noncomputable def x61L:Ent := .code en3 (fun c t h n=>Dc (.l [(.str 0 0),(.str 0 0),(.nil .sl),(.str 0 0)]) h n fun z1 h n=>GN (.agg [(.str 0 0),(.str 0 0),(.nil .sl),(.str 0 0),(.bool false)]) h n fun z2 h n=>g0 t fun z3=>B3 z3 fun z4=>Aj 0 (w1 t z1 fun t=>w2 t (iI 0) fun t=>w3 t (iI 0) fun t=>w4 t z2 fun t=>w5 t (iI 0) fun t=>w8 t z3 fun t=>w9 t z4 fun t=>BD t (iI 0) fun t=>Bd (heL c) t h n) fun t h n=>g0 t fun z1t=>B3 z1t fun z1u=>C3 z1u (iI 2000) fun z1v=>AY z1v (g1 t fun z1w=>Bn 4 z1w (.agg [(.str 0 0),(.str 0 0),(.nil .sl),(.str 0 0)]) h fun h=>w2 t (iI 0) fun t=>w3 t (iI 9) fun t=>rT t h n)<|g1 t fun z1x=>Bn 4 z1x (.agg [(.str 0 0),(.str 0 0),(.nil .sl),(.str 0 0)]) h fun h=>w2 t (iI 0) fun t=>w3 t (iI 11) fun t=>rT t h n) (fun t h n=>g1 t fun a0=>Ir 4 a0 h fun b0=>g2 t fun a1=>g3 t fun a2=>.rv (.tup [b0,a1,a2]) h n)
theorem x61_L:x61=x61L := rfl
/-- A text stands at a place of bytes. -/
def At (l:List UInt8) (k:Nat) (seg:List UInt8):Prop := ∃ t, l.drop k=seg++t
theorem At.head {l:List UInt8} {k:Nat} {x:UInt8} {s:List UInt8} (H:At l k (x::s)):k<l.length∧l[k]? = some x∧At l (k+1) s := by
  obtain ⟨t, e⟩ := H
  have h1:k<l.length := by
    have := congrArg List.length e
    rw [List.length_drop] at this
    simp only [List.cons_append,List.length_cons,List.length_append] at this
    omega
  refine ⟨h1, ?_, t, ?_⟩
  · have := congrArg (fun z => z[0]?) e
    simpa using this
  · have := congrArg (List.drop 1) e
    rw [List.drop_drop] at this
    exact this
theorem At.app {l:List UInt8} {k:Nat} {a b:List UInt8} (H:At l k (a++b)):At l k a∧At l (k+a.length) b := by
  obtain ⟨t, e⟩ := H
  refine ⟨⟨b++t, by rw [e, List.append_assoc]⟩, t, ?_⟩
  rw [←List.drop_drop, e, List.append_assoc, List.drop_left]
theorem At.take {l:List UInt8} {k:Nat} {a:List UInt8} (H:At l k a):(l.drop k).take a.length=a := by
  obtain ⟨t, e⟩ := H
  rw [e, List.take_left]
theorem At.le {l:List UInt8} {k:Nat} {a:List UInt8} (H:At l k a) (h:0<a.length):k+a.length≤l.length := by
  obtain ⟨t, e⟩ := H
  have := congrArg List.length e
  rw [List.length_drop, List.length_append] at this
  omega
theorem HV {p:K4} {h:Heap} {l:List UInt8} {s:Bool} {pr:Option K4} {i:Nat} {x:UInt8} (hp:A8 p h=some (.c (cb l) s pr)) (hi:l[i]? = some x) (κ:V->R):Lj (A8 p h) i κ=κ (.int .u8 x.toNat) := by
  obtain ⟨h1, h2⟩ := List.getElem?_eq_some_iff.1 hi
  rw [U1 hp h1, h2]
/-- The state of Read's loop. -/
abbrev hst (bp:K4) (o N:Nat) (ex:Bool) (rz rd:K4) (fr:Nat) (d6 d7:V) (i:Nat) (d11:V):S := .mk (.mk (.sl bp o N N ex 1) (.ptr rz 0) (.int .i64 0) (.int .i64 0)) (.mk (.ptr rd 0) (.int .i64 fr) d6 d7) (.mk (.sl bp o N N ex 1) (.int .i64 N) (.int .i64 i) d11) Q0 Q0 Q0 Q0 Q0
theorem he_step0 {c:DZ} {bp:K4} {o N:Nat} {ex:Bool} {rz rd:K4} {fr:Nat} {d6 d7 d11:V} {h:Heap} {n:K4} {l:List UInt8} {s:Bool} {pr:Option K4} {x:UInt8} (hp:A8 bp h=some (.c (cb l) s pr)) (hN:N<900000000) (h0:0<N) (hx:l[o]? = some x) (h1:¬ x.toNat=10) :
    heL c (hst bp o N ex rz rd fr d6 d7 0 d11) h n = .ok .nrm (hst bp o N ex rz rd fr (.int .i64 0) (.int .u8 x.toNat) 1 (.bool false)) h n := by
  have e1 := fun κ => HV hp hx κ
  have hd := decide_eq_false h1
  unfold heL
  simp (config := {maxSteps := 3000000}) (disch := omega) only [qa,g0,g1,g2,g3,g4,g5,g6,g7,g8,g9,BC,BF,C0,BR,BI,BK,BM,BY,BT,BU,w0,w1,w2,w3,w4,w5,w6,w7,w8,w9,BD,BB,BS,BP,BV,BQ,BH,BO,BL,BN,Mk,Nat.reduceAdd,Nat.reduceSub,Nat.reduceMul,Nat.reduceMod,Nat.reduceDiv,Q0,U,e1,q_iB,hd,Nat.add_zero,Nat.zero_add,Am,Av,AN,AP,AO,AQ]
theorem he_step {c:DZ} {bp:K4} {o N i:Nat} {ex:Bool} {rz rd:K4} {fr:Nat} {d6 d7 d11:V} {h:Heap} {n:K4} {l:List UInt8} {s:Bool} {pr:Option K4} {x y:UInt8} (hp:A8 bp h=some (.c (cb l) s pr)) (hN:N<900000000) (h0:i+1<N) (hx:l[o+(i+1)]? = some x) (h1:¬ x.toNat=10) (hy:l[o+i]? = some y) (h2:¬ y.toNat=13) :
    heL c (hst bp o N ex rz rd fr d6 d7 (i+1) d11) h n = .ok .nrm (hst bp o N ex rz rd fr (.int .i64 (i+1)) (.int .u8 x.toNat) (i+1+1) (.bool false)) h n := by
  have e1 := fun κ => HV hp hx κ
  have e2 := fun κ => HV hp hy κ
  have hd := decide_eq_false h1
  have hd2 := decide_eq_false h2
  unfold heL
  simp (config := {maxSteps := 3000000}) (disch := omega) only [qa,g0,g1,g2,g3,g4,g5,g6,g7,g8,g9,BC,BF,C0,BR,BI,BK,BM,BY,BT,BU,w0,w1,w2,w3,w4,w5,w6,w7,w8,w9,BD,BB,BS,BP,BV,BQ,BH,BO,BL,BN,Mk,Nat.reduceAdd,Nat.reduceSub,Nat.reduceMul,Nat.reduceMod,Nat.reduceDiv,Q0,U,e1,e2,q_iB,hd,hd2,Nat.add_zero,Nat.zero_add,Nat.add_sub_cancel,Am,Av,AN,AP,AO,AQ]
def plainB (b:UInt8):Bool := decide (¬ b.toNat=10 ∧ ¬ b.toNat=13)
theorem he_scanP {c:DZ} {bp:K4} {o N:Nat} {ex:Bool} {rz rd:K4} {fr:Nat} {h:Heap} {n:K4} {l:List UInt8} {s:Bool} {pr:Option K4} (hp:A8 bp h=some (.c (cb l) s pr)) (hN:N<900000000) (ho:o+N=l.length) (tl:List UInt8) :
    ∀ (seg:List UInt8) (i:Nat) (d6 d7 d11:V) (y:UInt8), (∀ x∈seg, plainB x=true)->l[o+i]? = some y->¬ y.toNat=13->At l (o+(i+1)) (seg++13::tl)->∀ K, Jy (heL c) (K+seg.length+1) (hst bp o N ex rz rd fr d6 d7 (i+1) d11) h n=Jy (heL c) K (hst bp o N ex rz rd fr (.int .i64 (i+1+seg.length)) (.int .u8 13) (i+1+seg.length+1) (.bool false)) h n
  | [], i, d6, d7, d11, y, _, hy, h2, ha, K => by
    obtain ⟨a1, a2, a3⟩ := At.head ha
    rw [Cg]
    refine (congrArg (fun z => NA z _) (he_step (c := c) (d6 := d6) (d7 := d7) (d11 := d11) hp hN (by omega) a2 (by decide) hy h2)).trans ?_
    rw [EC]; rfl
  | x::seg, i, d6, d7, d11, y, hs, hy, h2, ha, K => by
    obtain ⟨a1, a2, a3⟩ := At.head ha
    have hx := of_decide_eq_true (hs x (List.mem_cons_self ..))
    rw [show K+(x::seg).length+1=(K+seg.length+1)+1 by rw [List.length_cons]; omega, Cg]
    refine (congrArg (fun z => NA z _) (he_step (c := c) (d6 := d6) (d7 := d7) (d11 := d11) hp hN (by omega) a2 hx.1 hy h2)).trans ?_
    rw [EC, he_scanP hp hN ho tl seg (i+1) _ _ _ x (fun z hz => hs z (List.mem_cons_of_mem _ hz)) a2 hx.2 a3 K, List.length_cons, show i+1+1+seg.length=i+1+(seg.length+1) by omega]
theorem he_scan0 {c:DZ} {bp:K4} {o N:Nat} {ex:Bool} {rz rd:K4} {fr:Nat} {d6 d7 d11:V} {h:Heap} {n:K4} {l:List UInt8} {s:Bool} {pr:Option K4} (hp:A8 bp h=some (.c (cb l) s pr)) (hN:N<900000000) (ho:o+N=l.length) (tl:List UInt8) (x:UInt8) (seg:List UInt8) (hs:∀ z∈x::seg, plainB z=true) (ha:At l o (x::seg++13::tl)) (K:Nat) :
    Jy (heL c) (K+(x::seg).length+1) (hst bp o N ex rz rd fr d6 d7 0 d11) h n=Jy (heL c) K (hst bp o N ex rz rd fr (.int .i64 (x::seg).length) (.int .u8 13) ((x::seg).length+1) (.bool false)) h n := by
  obtain ⟨a1, a2, a3⟩ := At.head (s := seg++13::tl) ha
  have hx := of_decide_eq_true (hs x (List.mem_cons_self ..))
  rw [show K+(x::seg).length+1=(K+seg.length+1)+1 by rw [List.length_cons]; omega, Cg]
  refine (congrArg (fun z => NA z _) (he_step0 (c := c) (d6 := d6) (d7 := d7) (d11 := d11) hp hN (by omega) a2 hx.1)).trans ?_
  rw [EC, he_scanP hp hN ho tl seg 0 _ _ _ x (fun z hz => hs z (List.mem_cons_of_mem _ hz)) a2 hx.2 a3 K, List.length_cons, show 0+1+seg.length=seg.length+1 by omega]
theorem he_line {c:DZ} {bp:K4} {o N i fr:Nat} {ex:Bool} {rz rd:K4} {d6 d7 d11:V} {h h':Heap} {n n':K4} {l:List UInt8} {s:Bool} {pr:Option K4} {seg tl:List UInt8} (hp:A8 bp h=some (.c (cb l) s pr)) (hN:N<900000000) (ho:o+N=l.length) (hi:fr+seg.length=i) (ha:At l (o+fr) (seg++13::10::tl)) (hseg:¬ seg=[]) (hc:c ⟨.d0, .d4, .d14⟩ [.ptr rd 0, sb seg] h n = .rv (.bool true) h' n') :
    heL c (hst bp o N ex rz rd fr d6 d7 (i+1) d11) h n = .ok .nrm (hst bp o N ex rz rd (i+1+1) (.int .i64 (i+1)) (.int .u8 10) (i+1+1) (.bool false)) h' n' := by
  obtain ⟨a1, a2⟩ := At.app ha
  obtain ⟨b1, b2, b3⟩ := At.head a2
  obtain ⟨c1, c2, c3⟩ := At.head b3
  rw [show o+fr+seg.length=o+i by omega] at b1 b2 c1 c2
  rw [Nat.add_assoc o i 1] at c1 c2
  have e1 := fun κ => HV hp c2 κ
  have e2 := fun κ => HV hp b2 κ
  have e3:∀ κ:V->R, Cw 1 (.sl bp o N N ex 1) (some (.int .i64 fr)) (some (.int .i64 i)) κ=κ (.sl bp (o+fr) seg.length (N - fr) ex 1) := fun κ => (Hy (by omega) (by omega) (by omega) κ).trans (by rw [show i - fr=seg.length by omega])
  have e4:∀ κ:V->R, C4 (.sl bp (o+fr) seg.length (N - fr) ex 1) h κ=κ (sb seg) := fun κ => (E5 hp (by omega) κ).trans (by rw [At.take a1])
  have u10:(10:UInt8).toNat=10 := rfl
  have u13:(13:UInt8).toNat=13 := rfl
  rw [u10] at e1
  rw [u13] at e2
  have hd := decide_eq_false hseg
  unfold heL
  simp (config := {maxSteps := 3000000}) (disch := omega) only [qa,g0,g1,g2,g3,g4,g5,g6,g7,g8,g9,BC,BF,C0,BR,BI,BK,BM,BY,BT,BU,w0,w1,w2,w3,w4,w5,w6,w7,w8,w9,BD,BB,BS,BP,BV,BQ,BH,BO,BL,BN,Mk,Nat.reduceAdd,Nat.reduceSub,Nat.reduceMul,Nat.reduceMod,Nat.reduceDiv,Q0,U,e1,e2,e3,e4,MB,hd,hc,q_iB,Nat.add_zero,Nat.zero_add,Nat.add_sub_cancel,Am,Av,AN,AP,AO,AQ]
theorem he_end {c:DZ} {bp:K4} {o N i:Nat} {ex:Bool} {rz rd:K4} {d6 d7 d11:V} {h:Heap} {n:K4} {l:List UInt8} {s:Bool} {pr:Option K4} {tl:List UInt8} {a b cc d z1 z2 z3 z4:V} (hp:A8 bp h=some (.c (cb l) s pr)) (hN:N<900000000) (ho:o+N=l.length) (ha:At l (o+i) (13::10::tl)) (hrd:A8 rd h=some (.c (.l [a, b, cc, d, .bool true]) false none)) (hrz:A8 rz h=some (.c (.l [z1, z2, z3, z4]) false none)) (hi:i+2≤2000) :
    ∃ d11', heL c (hst bp o N ex rz rd i d6 d7 (i+1) d11) h n = .ok .ret (.mk (.mk (.sl bp o N N ex 1) (.ptr rz 0) (.int .i64 (i+2)) (.int .i64 0)) (.mk (.ptr rd 0) (.int .i64 (i+2)) (.int .i64 (i+1)) (.int .u8 10)) (.mk (.sl bp o N N ex 1) (.int .i64 N) (.int .i64 (i+1)) d11') Q0 Q0 Q0 Q0 Q0) (Af rz h (some (.c (.l [a, b, cc, d]) false none))) n := by
  obtain ⟨b1, b2, b3⟩ := At.head ha
  obtain ⟨c1, c2, c3⟩ := At.head b3
  rw [Nat.add_assoc o i 1] at c1 c2
  have e1 := fun κ => HV hp c2 κ
  have e2 := fun κ => HV hp b2 κ
  have e3:∀ κ:V->R, Cw 1 (.sl bp o N N ex 1) (some (.int .i64 i)) (some (.int .i64 i)) κ=κ (.sl bp (o+i) 0 (N - i) ex 1) := fun κ => (Hy (by omega) (by omega) (by omega) κ).trans (by rw [Nat.sub_self])
  have e4:∀ κ:V->R, C4 (.sl bp (o+i) 0 (N - i) ex 1) h κ=κ (.str 0 0) := fun κ => (E5 hp (by omega) κ).trans (by rw [List.take_zero]; rfl)
  have e5:∀ κ:V->R, AW (.str 0 0) (.str 0 0) κ=κ (.bool true) := fun κ => rfl
  have e6:∀ κ:V->R, Lo (some (.c (.l [a, b, cc, d, .bool true]) false none)) 4 0 κ=κ (.agg [a, b, cc, d]) := fun κ => rfl
  have e7:∀ κ:Heap->R, Bn 4 (.ptr rz 0) (.agg [a, b, cc, d]) h κ=κ (Af rz h (some (.c (.l [a, b, cc, d]) false none))) := fun κ => (Re (m := 4) (b := [a, b, cc, d]) hrz rfl (by show 0+4≤4; omega) κ).trans rfl
  have u10:(10:UInt8).toNat=10 := rfl
  have u13:(13:UInt8).toNat=13 := rfl
  rw [u10] at e1
  rw [u13] at e2
  refine ⟨.bool false, ?_⟩
  unfold heL
  simp (config := {maxSteps := 3000000}) (disch := omega) only [qa,g0,g1,g2,g3,g4,g5,g6,g7,g8,g9,BC,BF,C0,BR,BI,BK,BM,BY,BT,BU,w0,w1,w2,w3,w4,w5,w6,w7,w8,w9,BD,BB,BS,BP,BV,BQ,BH,BO,BL,BN,Mk,Nat.reduceAdd,Nat.reduceSub,Nat.reduceMul,Nat.reduceMod,Nat.reduceDiv,Q0,U,e1,e2,e3,e4,e5,e6,e7,hrd,q_iB,Nat.add_zero,Nat.zero_add,Nat.add_sub_cancel,Am,Av,AN,AP,AO,AQ]
theorem he_run {m:Nat} {bp:K4} {o N:Nat} {ex:Bool} {rz rd:K4} {h:Heap} {n:K4} {l:List UInt8} {s:Bool} {pr:Option K4} {me ta nm v w rest:List UInt8} {d6 d7 d11:V} (hp:A8 bp h=some (.c (cb l) s pr)) (ho:o+N=l.length) (hN:N<900000000)
    (ha:At l o ((me++32::(ta++32::verL))++13::10::((nm++58::v)++13::10::13::10::rest))) (h1:tokB me=true) (h2:tarB ta=true) (h3:tokB nm=true) (h4:trimB v=w) (h5:valB w=true) (hw:w.length<800000000) (hs1:∀ x∈me++32::(ta++32::verL), plainB x=true) (hs2:∀ x∈nm++58::v, plainB x=true)
    (hl:me.length+ta.length+nm.length+v.length<1900) (hrz:A8 rz h=some (.c (.l [.str 0 0, .str 0 0, .nil .sl, .str 0 0]) false none)) (hrd:A8 rd h=some (.c (.l [.str 0 0, .str 0 0, .nil .sl, .str 0 0, .bool false]) false none)) (hzd:rz≠rd) (hzb:rz≠bp) (hdb:rd≠bp) (gz:rz.toN<n.toN) (gd:rd.toN<n.toN) (gb:bp.toN<n.toN) (hn:n.toN<58000) :
    ∃ h' n' q d6' d7' i' d11' fr', (∀ K, Jy (heL (Ar tab (m+8))) (K+((me++32::(ta++32::verL)).length+(nm++58::v).length+6)) (hst bp o N ex rz rd 0 d6 d7 0 d11) h n = .ok .ret (.mk (.mk (.sl bp o N N ex 1) (.ptr rz 0) (.int .i64 ((me++32::(ta++32::verL)).length+(nm++58::v).length+6)) (.int .i64 0)) (.mk (.ptr rd 0) (.int .i64 fr') d6' d7') (.mk (.sl bp o N N ex 1) (.int .i64 N) (.int .i64 i') d11') Q0 Q0 Q0 Q0 Q0) h' n') ∧
      A8 rz h'=some (.c (.l [sb me, sb ta, .sl q 0 1 1 false 2, .str 0 0]) false none)∧A8 q h'=some (.c (.l [sb nm, sb w]) false none)∧n.toN≤q.toN∧q.toN<n'.toN∧n.toN≤n'.toN∧n'.toN≤n.toN+3∧(∀ x:K4, x.toN<n.toN->x≠rz->x≠rd->A8 x h'=A8 x h)∧(Bc h n->Bc h' n') := by
  obtain ⟨l1, l1e⟩:∃ x, me++32::(ta++32::verL)=x := ⟨_, rfl⟩
  obtain ⟨l2, l2e⟩:∃ x, nm++58::v=x := ⟨_, rfl⟩
  have z1:l1.length=me.length+ta.length+10 := by rw [←l1e]; simp only [List.length_append,List.length_cons]; show _+(_+(8+1)+1)=_; omega
  have z2:l2.length=nm.length+v.length+1 := by rw [←l2e]; simp only [List.length_append,List.length_cons]; omega
  have u1 := K4.up_toN (p := n) (by omega)
  have u2 := K4.up_toN (p := n.up) (by omega)
  have u3 := K4.up_toN (p := n.up.up) (by omega)
  have a0 := ha
  rw [l1e, l2e] at a0
  obtain ⟨a1, a2⟩ := At.app a0
  obtain ⟨_, b2, b3⟩ := At.head a2
  obtain ⟨_, c2, c3⟩ := At.head b3
  obtain ⟨e1, e2⟩ := At.app c3
  obtain ⟨_, p2, p3⟩ := At.head e2
  obtain ⟨_, r2, r3⟩ := At.head p3
  obtain ⟨ha', e1', k1, k2, k3⟩:∃ h', _∧_∧_∧_ := line1_ok (m := m+1) (h := h) (n := n) hrd gd h1 h2 (by omega) (by omega)
  have gdn:rd.toN<n.up.toN := by omega
  obtain ⟨hb', e2', k4, k5, k6, k7⟩:∃ h', _∧_∧_∧_∧_ := line2_ok (m := m+2) (h := ha') (n := n.up) (nm := nm) (v := v) (w := w) k1 gdn h3 h4 h5 (by omega) hw (by omega)
  rw [l1e] at e1'
  rw [l2e] at e2'
  have hl1:¬ l1=[] := fun e => by rw [e] at z1; simp at z1
  have hl2:¬ l2=[] := fun e => by rw [e] at z2; simp at z2
  have hpA:A8 bp ha'=some (.c (cb l) s pr) := (k2 bp gb (Ne.symm hdb)).trans hp
  have hpB:A8 bp hb'=some (.c (cb l) s pr) := (k6 bp (by omega) (Ne.symm hdb)).trans hpA
  have hzB:A8 rz hb'=some (.c (.l [.str 0 0, .str 0 0, .nil .sl, .str 0 0]) false none) := (k6 rz (by omega) hzd).trans ((k2 rz gz hzd).trans hrz)
  have hle := At.le (a := 13::10::(l2++13::10::13::10::rest)) a2 (by rw [List.length_cons]; omega)
  simp only [List.length_cons,List.length_append] at hle
  have A2:At l (o+(l1.length+1+1)) (l2++13::10::13::10::rest) := by rw [show o+(l1.length+1+1)=o+l1.length+1+1 by omega]; exact c3
  have A3:At l (o+(l1.length+1+1+l2.length+1+1)) (13::10::rest) := by rw [show o+(l1.length+1+1+l2.length+1+1)=o+l1.length+1+1+l2.length+1+1 by omega]; exact r3
  have C2:l[o+(l1.length+1)]? = some 10 := by rw [show o+(l1.length+1)=o+l1.length+1 by omega]; exact c2
  have R2:l[o+(l1.length+1+1+l2.length+1)]? = some 10 := by rw [show o+(l1.length+1+1+l2.length+1)=o+l1.length+1+1+l2.length+1 by omega]; exact r2
  obtain ⟨d11', ee⟩ := he_end (c := Ar tab (m+8)) (ex := ex) (rz := rz) (d6 := .int .i64 (l1.length+1+1+l2.length+1+1+([]:List UInt8).length)) (d7 := .int .u8 13) (d11 := .bool false) (n := n.up.up.up) hpB hN ho A3 k4 hzB (by omega)
  obtain ⟨x, sg, hsg⟩:∃ x sg, l1=x::sg := by
    cases l1 with
    | nil => exact absurd rfl hl1
    | cons x sg => exact ⟨x, sg, rfl⟩
  refine ⟨Af rz hb' (some (.c (.l [sb me, sb ta, .sl n.up.up 0 1 1 false 2, .str 0 0]) false none)), n.up.up.up, n.up.up, .int .i64 (l1.length+1+1+l2.length+1+1+1), .int .u8 10, l1.length+1+1+l2.length+1+1+1, d11', l1.length+l2.length+6, fun K => ?_, A6 _ _ _, by rw [A7 _ _ (K4.ne_of_lt (by omega))]; exact k5, by omega, by omega, by omega, by omega, fun y hy hyz hyd => ?_, fun hf q hq => ?_⟩
  · rw [l1e, l2e, show K+(l1.length+l2.length+6)=(K+1+([]:List UInt8).length+1+1+l2.length+1+1)+l1.length+1 by show _=(K+1+0+1+1+l2.length+1+1)+l1.length+1; omega]
    have s0 := he_scan0 (c := Ar tab (m+8)) (ex := ex) (rz := rz) (rd := rd) (fr := 0) (d6 := d6) (d7 := d7) (d11 := d11) (n := n) hp hN ho (10::(l2++13::10::13::10::rest)) x sg (by rw [←hsg, ←l1e]; exact hs1) (by rw [←hsg]; exact a0) (K+1+([]:List UInt8).length+1+1+l2.length+1+1)
    rw [←hsg] at s0
    rw [s0, Cg]
    refine (congrArg (fun z => NA z _) (he_line (c := Ar tab (m+8)) (ex := ex) (rz := rz) (rd := rd) (fr := 0) (i := l1.length) (seg := l1) (tl := l2++13::10::13::10::rest) hp hN ho (by omega) a0 hl1 e1')).trans ?_
    rw [EC, he_scanP (c := Ar tab (m+8)) (ex := ex) (rz := rz) (rd := rd) (n := n.up) hpA hN ho (10::13::10::rest) l2 (l1.length+1) _ _ _ 10 (by rw [←l2e]; exact hs2) C2 (by decide) A2, Cg]
    refine (congrArg (fun z => NA z _) (he_line (c := Ar tab (m+8)) (ex := ex) (rz := rz) (rd := rd) (fr := l1.length+1+1) (i := l1.length+1+1+l2.length) (seg := l2) (tl := 13::10::rest) hpA hN ho rfl A2 hl2 e2')).trans ?_
    rw [EC, he_scanP (c := Ar tab (m+8)) (ex := ex) (rz := rz) (rd := rd) (n := n.up.up.up) hpB hN ho (10::rest) [] (l1.length+1+1+l2.length+1) _ _ _ 10 (fun _ h => by cases h) R2 (by decide) A3, Cg]
    refine (congrArg (fun z => NA z _) ee).trans ?_
    rw [Qs, show l1.length+1+1+l2.length+1+1+2=l1.length+l2.length+6 by omega]
  · rw [A7 _ _ (Ne.symm hyz), k6 y (by omega) hyd, k2 y hy hyd]
  · rw [A7 _ _ (K4.ne_of_lt (by omega))]
    exact k7 (k3 hf) q hq
end Go.Ev.YtdgefeadbcbglaaDoor
