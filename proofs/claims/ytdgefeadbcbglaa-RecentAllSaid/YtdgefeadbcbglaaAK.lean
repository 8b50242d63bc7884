/- What the functions do, as equations over their texts, 0. -/
import Derived.Test.YtdgefeadbcbglaaAT
import Derived.KernelRfl
import Derived.KernelRfl
namespace Go.Ev.Ytdgefeadbcbglaa
open Go Go.Ev
set_option linter.unusedVariables false
set_option linter.unusedSimpArgs false
theorem B0 {T:FC} {m:Nat} {f:K3} {args:List V} {h:Heap} {n:K4}:Az T (m+1) f args h n=MM (Az T m) (BD f T) args h n := by
  show Yp f T (fun o => MM (Az T m) o args h n)=_
  exact Pa _ _ _
theorem ldnO_2 (a b:V) (s:Bool) (pr:Option K4) (κ:V->R):S9 (some (.c (.l [a, b]) s pr)) 2 0 κ=κ (.agg [a, b]) := id rfl
theorem cutS_ok {m k:Nat} {l:List UInt8} {h:Heap} {n:K4} (hl:l.length<9223372036854775808) (hk:k<9223372036854775808):Az tab (m+1) ⟨.d0, .d0, .d11⟩ [sb l, .int .i64 k] h n = .rv (sb (l.take k)) h n := by
  have e1 := fun κ => Abf l hl κ
  rw [B0, show BD ⟨.d0, .d0, .d11⟩ tab=some x11 from rfl, x11]
  by_cases hc:k<l.length
  · have e2:∀ κ, Tw (sb l) none (some (.int .i64 k)) κ=κ (sb (l.take k)) := fun κ => by
      show br (Nat.ble (Nat.succ k) 9223372036854775808) (br (Nat.ble 0 k) (br (Nat.ble k l.length) (Ac (Nat.sub k 0) fun m => Ac (Ev.lo (sh (Al l) 0) m) fun r => κ (.str m r)) (.fail "")) (.fail "")) (.fail "")=_
      rw [show Nat.ble (Nat.succ k) 9223372036854775808=true from A9.2 (by omega), Ab, show Nat.ble 0 k=true from A9.2 (Nat.zero_le _), Ab, show Nat.ble k l.length=true from A9.2 (by omega), Ab, Aa, Aa, Og, List.drop_zero]
      show κ (.str k (Al (l.take k)))=κ (.str (l.take k).length (Al (l.take k)))
      rw [List.length_take, Nat.min_eq_left (by omega)]
    simp (config := {maxSteps := 3000000}) (disch := omega) only [qa,g0,g1,g2,g3,g4,g5,g6,g7,g8,g9,EL,F5,EV,ES,EM,EQ,F6,ER,F2,F7,w0,w1,w2,w3,w4,w5,w6,w7,w8,w9,F3,F0,F4,EK,EX,F8,EJ,EP,EZ,EN,Mk,Nat.reduceAdd,Nat.reduceSub,Nat.reduceMul,Nat.reduceMod,Nat.reduceDiv,Q0,U,en1,e1,e2]
  · rw [List.take_of_length_le (by omega)]
    simp (config := {maxSteps := 3000000}) (disch := omega) only [qa,g0,g1,g2,g3,g4,g5,g6,g7,g8,g9,EL,F5,EV,ES,EM,EQ,F6,ER,F2,F7,w0,w1,w2,w3,w4,w5,w6,w7,w8,w9,F3,F0,F4,EK,EX,F8,EJ,EP,EZ,EN,Mk,Nat.reduceAdd,Nat.reduceSub,Nat.reduceMul,Nat.reduceMod,Nat.reduceDiv,Q0,U,en1,e1]
/-- The program's list. -/
structure RL (h:Heap) (n lp pm:K4) (its:List Itm) (N:Nat):Prop where
  hl:A8 lp h=some (.c (.l [.map pm, .int .i64 N]) false none)
  hp:∃ bs k, A8 pm h=some (.m (its.map Itm.ent) bs k)∧StOK its bs k
  ln:lp.toN<n.toN
  pn:pm.toN<n.toN
  ne:lp≠pm
theorem RL.frame {h h':Heap} {n n' lp pm:K4} {its:List Itm} {N:Nat} (H:RL h n lp pm its N) (hn:n.toN≤n'.toN) (e1:A8 lp h'=A8 lp h) (e2:A8 pm h'=A8 pm h):RL h' n' lp pm its N := by
  obtain ⟨bs, k, h1, h2⟩ := H.hp
  exact ⟨e1.trans H.hl, ⟨bs, k, e2.trans h1, h2⟩, Nat.lt_of_lt_of_le H.ln hn, Nat.lt_of_lt_of_le H.pn hn, H.ne⟩
theorem use_ok {m:Nat} {h:Heap} {n lp pm:K4} {its:List Itm} {N t a c:Nat} (H:RL h n lp pm its N) (hN:N+1<9223372036854775808) (hn:n.toN<60000) :
    ∃ h', Az tab (m+1) ⟨.d0, .d0, .d14⟩ [.ptr lp 0, .agg [.int .u32 t, .str a c]] h n = .rv (.tup []) h' n.up∧RL h' n.up lp pm (GA (N+1) t a c its) (N+1)∧(∀ q:K4, q.toN<n.toN->q≠lp->q≠pm->A8 q h'=A8 q h)∧(B7 h n->B7 h' n.up) := by
  obtain ⟨hl, ⟨bs, k, hp, ok⟩, ln, pn, ne⟩ := H
  have u1 := K4.up_toN (p := n) (by omega)
  obtain ⟨h1, h1e⟩:∃ x, Af n h (some (.c (.l [.int .u32 t, .str a c]) false none))=x := ⟨_, rfl⟩
  obtain ⟨h2, h2e⟩:∃ x, Af lp h1 (some (.c (.l [.map pm, .int .i64 (N+1)]) false none))=x := ⟨_, rfl⟩
  have f1:∀ q:K4, q≠n->A8 q h1=A8 q h := fun q hq => by rw [←h1e]; exact A6 _ _ hq.symm
  have f2:∀ q:K4, q≠lp->A8 q h2=A8 q h1 := fun q hq => by rw [←h2e]; exact A6 _ _ hq.symm
  have y1:A8 n h1=some (.c (.l [.int .u32 t, .str a c]) false none) := by rw [←h1e]; exact A7 _ _ _
  have l1:A8 lp h1=some (.c (.l [.map pm, .int .i64 N]) false none) := (f1 _ (K4.ne_of_lt ln)).trans hl
  have y2:A8 n h2=some (.c (.l [.int .u32 t, .str a c]) false none) := (f2 _ (K4.ne_of_lt ln).symm).trans y1
  have l2:A8 lp h2=some (.c (.l [.map pm, .int .i64 (N+1)]) false none) := by rw [←h2e]; exact A7 _ _ _
  have p2:A8 pm h2=some (.m (its.map Itm.ent) bs k) := (f2 _ ne.symm).trans ((f1 _ (K4.ne_of_lt pn)).trans hp)
  obtain ⟨bs', k', e, ok'⟩ := Aai p2 ok (N+1) t a c
  refine ⟨Af pm h2 (some (.m ((GA (N+1) t a c its).map Itm.ent) bs' k')), ?_, ⟨?_, ⟨bs', k', A7 _ _ _, ok'⟩, by omega, by omega, ne⟩, fun q hq h1 h2 => ?_, fun hf q hq => ?_⟩
  · rw [B0, show BD ⟨.d0, .d0, .d14⟩ tab=some x14 from rfl, x14]
    simp (config := {maxSteps := 3000000}) (disch := omega) only [qa,g0,g1,g2,g3,g4,g5,g6,g7,g8,g9,EL,F5,EV,ES,EM,EQ,F6,ER,F2,F7,w0,w1,w2,w3,w4,w5,w6,w7,w8,w9,F3,F0,F4,EK,EX,F8,EJ,EP,EZ,EN,Mk,Nat.reduceAdd,Nat.reduceSub,Nat.reduceMul,Nat.reduceMod,Nat.reduceDiv,Q0,U,en1,hl,h1e,y1,l1,h2e,y2,l2,ldnO_2,e,CI,CE,CH,CD]
  · rw [A6 _ _ ne.symm]; exact l2
  · rw [A6 _ _ (Ne.symm h2), f2 _ h1, f1 _ (K4.ne_of_lt hq)]
  · rw [A6 _ _ (K4.ne_of_lt (by omega)), f2 _ (K4.ne_of_lt (by omega)).symm, f1 _ (K4.ne_of_lt (by omega)).symm]; exact hf q (by omega)
theorem drop_no {m:Nat} {h:Heap} {n lp pm:K4} {its:List Itm} {N t a c:Nat} (H:RL h n lp pm its N) (h0:Jf t a c its=0) (hn:n.toN<60000) :
    ∃ h', Az tab (m+1) ⟨.d0, .d0, .d12⟩ [.ptr lp 0, .agg [.int .u32 t, .str a c]] h n = .rv (.bool false) h' n.up∧RL h' n.up lp pm its N∧(∀ q:K4, q.toN<n.toN->A8 q h'=A8 q h)∧(B7 h n->B7 h' n.up) := by
  have H0 := H
  obtain ⟨hl, ⟨bs, k, hp, ok⟩, ln, pn, ne⟩ := H
  have u1 := K4.up_toN (p := n) (by omega)
  obtain ⟨h1, h1e⟩:∃ x, Af n h (some (.c (.l [.int .u32 t, .str a c]) false none))=x := ⟨_, rfl⟩
  have f1:∀ q:K4, q≠n->A8 q h1=A8 q h := fun q hq => by rw [←h1e]; exact A6 _ _ hq.symm
  have y1:A8 n h1=some (.c (.l [.int .u32 t, .str a c]) false none) := by rw [←h1e]; exact A7 _ _ _
  have l1:A8 lp h1=some (.c (.l [.map pm, .int .i64 N]) false none) := (f1 _ (K4.ne_of_lt ln)).trans hl
  have p1:A8 pm h1=some (.m (its.map Itm.ent) bs k) := (f1 _ (K4.ne_of_lt pn)).trans hp
  have e := fun κ => YO p1 t a c κ
  refine ⟨h1, ?_, H0.frame (by omega) (f1 _ (K4.ne_of_lt ln)) (f1 _ (K4.ne_of_lt pn)), fun q hq => f1 _ (K4.ne_of_lt hq), fun hf q hq => (f1 _ (K4.ne_of_lt (by omega)).symm).trans (hf q (by omega))⟩
  rw [B0, show BD ⟨.d0, .d0, .d12⟩ tab=some x12 from rfl, x12]
  simp (config := {maxSteps := 3000000}) (disch := omega) only [qa,g0,g1,g2,g3,g4,g5,g6,g7,g8,g9,EL,F5,EV,ES,EM,EQ,F6,ER,F2,F7,w0,w1,w2,w3,w4,w5,w6,w7,w8,w9,F3,F0,F4,EK,EX,F8,EJ,EP,EZ,EN,Mk,Nat.reduceAdd,Nat.reduceSub,Nat.reduceMul,Nat.reduceMod,Nat.reduceDiv,Q0,U,en1,h1e,y1,l1,ldnO_2,e,h0,CI,CE,CH,CD]
theorem drop_yes {m:Nat} {h:Heap} {n lp pm:K4} {its:List Itm} {N t a c:Nat} (H:RL h n lp pm its N) (h0:1≤Jf t a c its) (h9:Jf t a c its<9223372036854775808) (hn:n.toN<60000) :
    ∃ h', Az tab (m+1) ⟨.d0, .d0, .d12⟩ [.ptr lp 0, .agg [.int .u32 t, .str a c]] h n = .rv (.bool true) h' n.up∧RL h' n.up lp pm (Dc t a c its) N∧(∀ q:K4, q.toN<n.toN->q≠pm->A8 q h'=A8 q h)∧(B7 h n->B7 h' n.up) := by
  obtain ⟨hl, ⟨bs, k, hp, ok⟩, ln, pn, ne⟩ := H
  have u1 := K4.up_toN (p := n) (by omega)
  obtain ⟨h1, h1e⟩:∃ x, Af n h (some (.c (.l [.int .u32 t, .str a c]) false none))=x := ⟨_, rfl⟩
  have f1:∀ q:K4, q≠n->A8 q h1=A8 q h := fun q hq => by rw [←h1e]; exact A6 _ _ hq.symm
  have y1:A8 n h1=some (.c (.l [.int .u32 t, .str a c]) false none) := by rw [←h1e]; exact A7 _ _ _
  have l1:A8 lp h1=some (.c (.l [.map pm, .int .i64 N]) false none) := (f1 _ (K4.ne_of_lt ln)).trans hl
  have p1:A8 pm h1=some (.m (its.map Itm.ent) bs k) := (f1 _ (K4.ne_of_lt pn)).trans hp
  have e := fun κ => YO p1 t a c κ
  obtain ⟨bs', e2, ok'⟩ := ZX p1 ok t a c
  have h3:¬ Jf t a c its=0 := by omega
  refine ⟨Af pm h1 (some (.m ((Dc t a c its).map Itm.ent) bs' k)), ?_, ⟨?_, ⟨bs', k, A7 _ _ _, ok'⟩, by omega, by omega, ne⟩, fun q hq h2 => ?_, fun hf q hq => ?_⟩
  · rw [B0, show BD ⟨.d0, .d0, .d12⟩ tab=some x12 from rfl, x12]
    simp (config := {maxSteps := 3000000}) (disch := omega) only [qa,g0,g1,g2,g3,g4,g5,g6,g7,g8,g9,EL,F5,EV,ES,EM,EQ,F6,ER,F2,F7,w0,w1,w2,w3,w4,w5,w6,w7,w8,w9,F3,F0,F4,EK,EX,F8,EJ,EP,EZ,EN,Mk,Nat.reduceAdd,Nat.reduceSub,Nat.reduceMul,Nat.reduceMod,Nat.reduceDiv,Q0,U,en1,h1e,y1,l1,ldnO_2,e,e2,decide_eq_false h3,CI,CE,CH,CD]
  · rw [A6 _ _ ne.symm]; exact l1
  · rw [A6 _ _ (Ne.symm h2), f1 _ (K4.ne_of_lt hq)]
  · rw [A6 _ _ (K4.ne_of_lt (by omega)), f1 _ (K4.ne_of_lt (by omega)).symm]; exact hf q (by omega)
theorem len_ok {m:Nat} {h:Heap} {n lp pm:K4} {its:List Itm} {N:Nat} (H:RL h n lp pm its N) (hl2:its.length<9223372036854775808):Az tab (m+1) ⟨.d0, .d1, .d2⟩ [.ptr lp 0] h n = .rv (.int .i64 its.length) h n := by
  obtain ⟨hl, ⟨bs, k, hp, ok⟩, ln, pn, ne⟩ := H
  rw [B0, show BD ⟨.d0, .d1, .d2⟩ tab=some x18 from rfl, x18]
  simp (config := {maxSteps := 3000000}) (disch := omega) only [qa,g0,g1,g2,g3,g4,g5,g6,g7,g8,g9,EL,F5,EV,ES,EM,EQ,F6,ER,F2,F7,w0,w1,w2,w3,w4,w5,w6,w7,w8,w9,F3,F0,F4,EK,EX,F8,EJ,EP,EZ,EN,Mk,Nat.reduceAdd,Nat.reduceSub,Nat.reduceMul,Nat.reduceMod,Nat.reduceDiv,Q0,U,en3,hl,hp,List.length_map,CI,CE,CH,CD]
theorem new_ok {m:Nat} {h:Heap} {n:K4} (hn:n.toN<60000):∃ h', Az tab (m+1) ⟨.d0, .d0, .d10⟩ [] h n = .rv (.ptr n.up 0) h' n.up.up∧RL h' n.up.up n.up n [] 0∧(∀ q:K4, q.toN<n.toN->A8 q h'=A8 q h)∧(B7 h n->B7 h' n.up.up) := by
  have u1 := K4.up_toN (p := n) (by omega)
  have u2 := K4.up_toN (p := n.up) (by omega)
  refine ⟨Af n.up (Af n h (some (.m [] [] 0))) (some (.c (.l [.map n, .int .i64 0]) false none)), ?_, ⟨A7 _ _ _, ⟨[], 0, ?_, StOK.nil⟩, by omega, by omega, (K4.ne_of_lt (by omega)).symm⟩, fun q hq => ?_, fun hf q hq => ?_⟩
  · rw [B0, show BD ⟨.d0, .d0, .d10⟩ tab=some x10 from rfl, x10]
    simp (config := {maxSteps := 3000000}) (disch := omega) only [qa,g0,g1,g2,g3,g4,g5,g6,g7,g8,g9,EL,F5,EV,ES,EM,EQ,F6,ER,F2,F7,w0,w1,w2,w3,w4,w5,w6,w7,w8,w9,F3,F0,F4,EK,EX,F8,EJ,EP,EZ,EN,Mk,Nat.reduceAdd,Nat.reduceSub,Nat.reduceMul,Nat.reduceMod,Nat.reduceDiv,Q0,U,en2,CI,CE,CH,CD]
  · rw [A6 _ _ (K4.ne_of_lt (by omega)).symm, A7]; rfl
  · rw [A6 _ _ (K4.ne_of_lt (by omega)).symm, A6 _ _ (K4.ne_of_lt (by omega)).symm]
  · rw [A6 _ _ (K4.ne_of_lt (by omega)), A6 _ _ (K4.ne_of_lt (by omega))]; exact hf q (by omega)
noncomputable def rdB (c:FL):S->Heap->K4->R := fun t h n=>g4 t fun z3=>g0 t fun z4=>AL z4 fun z5=>Ax 0 z5 fun z6=>AP z6 h fun z7=>Bx z7 fun z8=>FV z3 z8 fun z9=>Ed z9 (AO 1 (mV z4 fun za=>AM (AL za AD) fun zb=>AM (Ax 0 zb AD) fun zc=>AM (AP zc h AD) fun zd=>mV z3 fun ze=>AM (BP 2 zd ze AD) fun zf=>AM (Ax 0 zf AD) fun zg=>AM (AP zg h AD) fun zh=>g2 t fun zi=>AM (Ax 0 zi AD) fun zj=>AM (AP zj h AD) fun zk=>AM (DW zh zk AD) fun zl=>mV zl fun zm=>gA zm (AD z4) fun zn=>gA zm (AL zn AD) fun zo=>gA zm (Ax 0 zo AD) fun zp=>gA zm (AP zp h AD) fun zq=>gA zm (AD z3) fun zr=>gA zm (BP 2 zq zr AD) fun zs=>gA zm (Ax 1 zs AD) fun zt=>gA zm (AP zt h AD) fun zu=>gA zm (Ax 1 zi AD) fun zv=>gA zm (AP zv h AD) fun zw=>gA zm (DW zu zw AD) fun zx=>AM (C9 zm zx (.bool false) AD) fun zy=>Ed zy (mV z4 fun zz=>mV z4 fun z10=>AM (AL z10 AD) fun z11=>AM (Ax 0 z11 AD) fun z12=>AM (AP z12 h AD) fun z13=>mV z3 fun z14=>mV z3 fun z15=>AM (H9 4294967298 z13 (some z15) (some z14) AD) fun z16=>mV z4 fun z17=>AM (AL z17 AD) fun z18=>AM (Ax 0 z18 AD) fun z19=>AM (AP z19 h AD) fun z1a=>mV z3 fun z1b=>AM (FG z1b (iI 1) AD) fun z1c=>AM (H9 2 z1a (some z1c) none AD) fun z1d=>Ij (Dk 2 24 z16 z1d h n .rv) fun z1e h n=>AM (AL zz AD) fun z1f=>AM (Ax 0 z1f AD) fun z1g=>Ij (Dj z1g z1e h fun h=>.rv U h n) fun z1h h n=>w3 t (.bool true) fun t=>rT t h n)<|nR t h n) fun t h n=>g4 t fun z1i=>FG z1i (iI 1) fun z1j=>w4 t z1j fun t=>nR t h n)<|.ok (.exit 0) t h n
noncomputable def x13L:Ent := .code en1 (fun c t h n=>g1 t fun z1=>DT z1 h n fun z2 h n=>AO 0 (w2 t z2 fun t=>w3 t (.bool false) fun t=>w4 t (iI 0) fun t=>Fp (rdB c) t h n) fun t h n=>w3 t (.bool false) fun t=>rT t h n) (fun t h n=>g3 t fun a0=>.rv a0 h n)
theorem x13_L:x13=x13L := rfl
theorem eqlS (m c m' c':Nat) (κ:V->R):DW (.str m c) (.str m' c') κ=κ (.bool (decide (m=m')&&decide (c=c'))) := by
  show Bv (Dl m c m' c') (fun r => κ (.bool r))=_
  rw [B2, Hz]
/-- The document's list. -/
structure RR (A:K4->Prop) (h:Heap) (n rp:K4) (lv:V) (L:List Itm):Prop where
  hr:A8 rp h=some (.c (.l [lv]) false none)
  kl:KL A n h lv L
  rn:rp.toN<n.toN
  na:¬ A rp
  ll:L.length≤1000
theorem RR.frame {A:K4->Prop} {h h':Heap} {n n' rp:K4} {lv:V} {L:List Itm} (H:RR A h n rp lv L) (hn:n.toN≤n'.toN) (e1:A8 rp h'=A8 rp h) (e2:∀ q:K4, q.toN<n.toN->A q->A8 q h'=A8 q h):RR A h' n' rp lv L :=
  ⟨e1.trans H.hr, H.kl.mono hn e2, Nat.lt_of_lt_of_le H.rn hn, H.na, H.ll⟩
theorem st1_kl {A:K4->Prop} {n:K4} {h':Heap} {v':V} {L:List Itm} (K:KL A n h' v' L) {p:K4} {h:Heap} {x:V} (hp:A8 p h=some (.c (.l [x]) false none)) (κ:Heap->R):Dj (.ptr p 0) v' h κ=κ (Af p h (some (.c (.l [v']) false none))) := by
  rcases K with ⟨rfl, _⟩ | ⟨q, a, s, pr, ex, rfl, _⟩
  · simp (disch := omega) only [qa,g0,g1,g2,g3,g4,g5,g6,g7,g8,g9,EL,F5,EV,ES,EM,EQ,F6,ER,F2,F7,w0,w1,w2,w3,w4,w5,w6,w7,w8,w9,F3,F0,F4,EK,EX,F8,EJ,EP,EZ,EN,Mk,Nat.reduceAdd,Nat.reduceSub,Nat.reduceMul,Nat.reduceMod,Nat.reduceDiv,Q0,U,hp]
  · simp (disch := omega) only [qa,g0,g1,g2,g3,g4,g5,g6,g7,g8,g9,EL,F5,EV,ES,EM,EQ,F6,ER,F2,F7,w0,w1,w2,w3,w4,w5,w6,w7,w8,w9,F3,F0,F4,EK,EX,F8,EJ,EP,EZ,EN,Mk,Nat.reduceAdd,Nat.reduceSub,Nat.reduceMul,Nat.reduceMod,Nat.reduceDiv,Q0,U,hp]
theorem isB_of {t m c:Nat} {x:Itm} (h1:x.t=t) (h2:x.m=m) (h3:x.c=c):Itm.isB t m c x=true := Jm.2 ⟨h1.symm, h2.symm, h3.symm⟩
theorem isB_not {t m c:Nat} {x:Itm} (h:¬ (x.t=t∧x.m=m∧x.c=c)):Itm.isB t m c x=false := by
  cases hb:Itm.isB t m c x with
  | false => rfl
  | true => obtain ⟨a, b, d⟩ := Jm.1 hb; exact absurd ⟨a.symm, b.symm, d.symm⟩ h
theorem rd_loop {A:K4->Prop} {c:FL} {t a b:Nat} {kv d3 d5 d6 d7:V} {c2 c3 c4 c5 c6 c7:SQ} {h:Heap} {n rp kb:K4} {lv:V} {L:List Itm} (H:RR A h n rp lv L) (hA:∀ q:K4, n.toN≤q.toN->A q) (hk:A8 kb h=some (.c (.l [.int .u32 t, .str a b]) false none)) (hn:n.toN<60000) :
    ∀ (j i:Nat), i+j=L.length->(∀ x∈L.take i, Itm.isB t a b x=false) →
    ((∀ x∈L, Itm.isB t a b x=false) ∧ ∃ d4', ∀ K, J6 (rdB c) (K+j+1) (.mk (.mk (.ptr rp 0) kv (.ptr kb 0) d3) (.mk (.int .i64 i) d5 d6 d7) c2 c3 c4 c5 c6 c7) h n = .ok (.exit 0) (.mk (.mk (.ptr rp 0) kv (.ptr kb 0) d3) (.mk d4' d5 d6 d7) c2 c3 c4 c5 c6 c7) h n) ∨
    ((∃ x∈L, Itm.isB t a b x=true) ∧ ∃ h' n' lv' d4', (∀ K, J6 (rdB c) (K+j+1) (.mk (.mk (.ptr rp 0) kv (.ptr kb 0) d3) (.mk (.int .i64 i) d5 d6 d7) c2 c3 c4 c5 c6 c7) h n = .ok .ret (.mk (.mk (.ptr rp 0) kv (.ptr kb 0) (.bool true)) (.mk d4' d5 d6 d7) c2 c3 c4 c5 c6 c7) h' n') ∧
      RR A h' n' rp lv' (Dc t a b L)∧n.toN≤n'.toN∧n'.toN≤n.toN+1∧(∀ q:K4, q.toN<n.toN->q≠rp->A8 q h'=A8 q h)∧(B7 h n->B7 h' n')) := by
  have hll := H.ll
  have hr := H.hr
  have lln := fun κ => H.kl.len (by omega) κ
  intro j
  induction j with
  | zero =>
    intro i hi hno
    obtain rfl:i=L.length := by omega
    refine .inl ⟨by rw [List.take_length] at hno; exact hno, .int .i64 L.length, fun K => ?_⟩
    rw [GI]
    unfold rdB
    simp (config := {maxSteps := 3000000}) (disch := omega) only [qa,g0,g1,g2,g3,g4,g5,g6,g7,g8,g9,EL,F5,EV,ES,EM,EQ,F6,ER,F2,F7,w0,w1,w2,w3,w4,w5,w6,w7,w8,w9,F3,F0,F4,EK,EX,F8,EJ,EP,EZ,EN,Mk,Nat.reduceAdd,Nat.reduceSub,Nat.reduceMul,Nat.reduceMod,Nat.reduceDiv,Q0,U,hr,lln,CI,CE,CH,CD]
  | succ j ih =>
    intro i hi hno
    have hi':i<L.length := by omega
    obtain ⟨p, o, e1, e2, e3⟩ := H.kl.ix hi' (by omega)
    by_cases hB:L[i].t=t∧L[i].m=a∧L[i].c=b
    · refine .inr ⟨⟨L[i], List.getElem_mem hi', isB_of hB.1 hB.2.1 hB.2.2⟩, ?_⟩
      obtain ⟨v1, v2, v', h', n', j1, j2, j3, K', b1, b2, f1, f2, fr⟩ := H.kl.cut hA hi' (by omega) (by omega)
      have j1':∀ κ:V->R, H9 4294967298 lv (some (.int .i64 i)) (some (.int .i64 i)) κ=κ v1 := j1
      have hr':A8 rp h'=some (.c (.l [lv]) false none) := (f2 rp H.rn).trans hr
      have est := fun κ => st1_kl K' hr' κ
      have hdel:Dc t a b L=L.take i++L.drop (i+1) := Tn hi' (fun k hk => hno _ (List.mem_take_iff_getElem.2 ⟨k, by omega, rfl⟩)) (isB_of hB.1 hB.2.1 hB.2.2)
      refine ⟨Af rp h' (some (.c (.l [v']) false none)), n', v', .int .i64 i, fun K => ?_, ⟨A7 _ _ _, ?_, by have := H.rn; omega, H.na, ?_⟩, b1, b2, fun q hq hqr => (A6 _ _ (Ne.symm hqr)).trans (f2 q hq), fun hf q hq => (A6 _ _ (K4.ne_of_lt (by have := H.rn; omega))).trans (fr hf q hq)⟩
      · rw [show K+(j+1)+1=(K+j+1)+1 by omega, GI]
        unfold rdB
        simp (config := {maxSteps := 3000000}) (disch := omega) only [qa,g0,g1,g2,g3,g4,g5,g6,g7,g8,g9,EL,F5,EV,ES,EM,EQ,F6,ER,F2,F7,w0,w1,w2,w3,w4,w5,w6,w7,w8,w9,F3,F0,F4,EK,EX,F8,EJ,EP,EZ,EN,Mk,Nat.reduceAdd,Nat.reduceSub,Nat.reduceMul,Nat.reduceMod,Nat.reduceDiv,Q0,U,hr,lln,e1,e2,e3,hk,eqlS,hB.1,hB.2.1,hB.2.2,j1',j2,j3,est,Nat.add_zero,De,ED,CI,CE,CH,CD]
      · rw [hdel]
        exact K'.mono (Nat.le_refl _) fun q _ hq => A6 _ _ fun e => H.na (e ▸ hq)
      · rw [hdel, List.length_append, List.length_take, List.length_drop]; omega
    · have hnb := isB_not hB
      have hno':∀ x∈L.take (i+1), Itm.isB t a b x=false := fun x hx => by
        rw [List.take_succ_eq_append_getElem hi'] at hx
        rcases List.mem_append.1 hx with hx | hx
        · exact hno x hx
        · rw [List.mem_singleton.1 hx]; exact hnb
      have step:∀ K, J6 (rdB c) (K+(j+1)+1) (.mk (.mk (.ptr rp 0) kv (.ptr kb 0) d3) (.mk (.int .i64 i) d5 d6 d7) c2 c3 c4 c5 c6 c7) h n=J6 (rdB c) (K+j+1) (.mk (.mk (.ptr rp 0) kv (.ptr kb 0) d3) (.mk (.int .i64 (i+1)) d5 d6 d7) c2 c3 c4 c5 c6 c7) h n := fun K => by
        rw [show K+(j+1)+1=(K+j+1)+1 by omega, GI]
        unfold rdB
        by_cases h1:L[i].t=t
        · by_cases h2:L[i].m=a
          · have h3:¬ L[i].c=b := fun h3 => hB ⟨h1, h2, h3⟩
            simp (config := {maxSteps := 3000000}) (disch := omega) only [qa,g0,g1,g2,g3,g4,g5,g6,g7,g8,g9,EL,F5,EV,ES,EM,EQ,F6,ER,F2,F7,w0,w1,w2,w3,w4,w5,w6,w7,w8,w9,F3,F0,F4,EK,EX,F8,EJ,EP,EZ,EN,Mk,Nat.reduceAdd,Nat.reduceSub,Nat.reduceMul,Nat.reduceMod,Nat.reduceDiv,Q0,U,hr,lln,e1,e2,e3,hk,eqlS,h1,h2,decide_eq_false h3,Nat.add_zero,De,ED,CI,CE,CH,CD]
          · simp (config := {maxSteps := 3000000}) (disch := omega) only [qa,g0,g1,g2,g3,g4,g5,g6,g7,g8,g9,EL,F5,EV,ES,EM,EQ,F6,ER,F2,F7,w0,w1,w2,w3,w4,w5,w6,w7,w8,w9,F3,F0,F4,EK,EX,F8,EJ,EP,EZ,EN,Mk,Nat.reduceAdd,Nat.reduceSub,Nat.reduceMul,Nat.reduceMod,Nat.reduceDiv,Q0,U,hr,lln,e1,e2,e3,hk,eqlS,h1,decide_eq_false h2,Nat.add_zero,De,ED,CI,CE,CH,CD]
        · simp (config := {maxSteps := 3000000}) (disch := omega) only [qa,g0,g1,g2,g3,g4,g5,g6,g7,g8,g9,EL,F5,EV,ES,EM,EQ,F6,ER,F2,F7,w0,w1,w2,w3,w4,w5,w6,w7,w8,w9,F3,F0,F4,EK,EX,F8,EJ,EP,EZ,EN,Mk,Nat.reduceAdd,Nat.reduceSub,Nat.reduceMul,Nat.reduceMod,Nat.reduceDiv,Q0,U,hr,lln,e1,e2,e3,hk,eqlS,decide_eq_false h1,Nat.add_zero,De,ED,CI,CE,CH,CD]
      rcases ih (i+1) (by omega) hno' with ⟨h1, d4', e⟩ | ⟨h1, h', n', lv', d4', e, r⟩
      · exact .inl ⟨h1, d4', fun K => (step K).trans (e K)⟩
      · exact .inr ⟨h1, h', n', lv', d4', fun K => (step K).trans (e K), r⟩
theorem anyB {t a b:Nat} {L:List Itm} (h:∃ x∈L, Itm.isB t a b x=true):L.any (Itm.isB t a b)=true := List.any_eq_true.2 h
theorem anyB_no {t a b:Nat} {L:List Itm} (h:∀ x∈L, Itm.isB t a b x=false):L.any (Itm.isB t a b)=false := List.any_eq_false.2 fun x hx => by rw [h x hx]; decide
theorem drop_r {m:Nat} {A:K4->Prop} {h:Heap} {n rp:K4} {lv:V} {L:List Itm} {t a b:Nat} (H:RR A h n rp lv L) (hA:∀ q:K4, n.toN≤q.toN->A q) (hn:n.toN<59000) :
    ∃ h' n' lv', Az tab (m+1) ⟨.d0, .d0, .d13⟩ [.ptr rp 0, .agg [.int .u32 t, .str a b]] h n = .rv (.bool (L.any (Itm.isB t a b))) h' n'∧RR A h' n' rp lv' (Dc t a b L)∧n.toN≤n'.toN∧n'.toN≤n.toN+2∧(∀ q:K4, q.toN<n.toN->q≠rp->A8 q h'=A8 q h)∧(B7 h n->B7 h' n') := by
  have u1 := K4.up_toN (p := n) (by omega)
  obtain ⟨h1, h1e⟩:∃ x, Af n h (some (.c (.l [.int .u32 t, .str a b]) false none))=x := ⟨_, rfl⟩
  have f1:∀ q:K4, q≠n->A8 q h1=A8 q h := fun q hq => by rw [←h1e]; exact A6 _ _ hq.symm
  have y1:A8 n h1=some (.c (.l [.int .u32 t, .str a b]) false none) := by rw [←h1e]; exact A7 _ _ _
  have H1:RR A h1 n.up rp lv L := H.frame (by omega) (f1 _ (K4.ne_of_lt H.rn)) fun q hq _ => f1 _ (K4.ne_of_lt hq)
  have r1:B7 h n->B7 h1 n.up := fun hf q hq => (f1 _ (K4.ne_of_lt (by omega)).symm).trans (hf q (by omega))
  have hll := H.ll
  rcases rd_loop (c := Az tab m) (kv := .agg [.int .u32 t, .str a b]) (d3 := .bool false) (d5 := B8) (d6 := B8) (d7 := B8) (c2 := Q0) (c3 := Q0) (c4 := Q0) (c5 := Q0) (c6 := Q0) (c7 := Q0) H1 (fun q hq => hA q (by omega)) y1 (by omega) L.length 0 (by omega) (fun x hx => by simp at hx) with ⟨hno, d4', e⟩ | ⟨hyes, h', n', lv', d4', e, H', b1, b2, o, fr⟩
  · have e9 := e (999999999 - L.length)
    rw [show 999999999 - L.length+L.length+1=999999999+1 by omega] at e9
    simp only [Q0] at e9
    refine ⟨h1, n.up, lv, ?_, by rw [Pi hno]; exact H1, by omega, by omega, fun q hq _ => f1 _ (K4.ne_of_lt hq), r1⟩
    rw [B0, show BD ⟨.d0, .d0, .d13⟩ tab=some x13 from rfl, x13_L, x13L, anyB_no hno]
    simp (config := {maxSteps := 3000000}) (disch := omega) only [qa,g0,g1,g2,g3,g4,g5,g6,g7,g8,g9,EL,F5,EV,ES,EM,EQ,F6,ER,F2,F7,w0,w1,w2,w3,w4,w5,w6,w7,w8,w9,F3,F0,F4,EK,EX,F8,EJ,EP,EZ,EN,Mk,Nat.reduceAdd,Nat.reduceSub,Nat.reduceMul,Nat.reduceMod,Nat.reduceDiv,Q0,U,en1,h1e,CI,CE,CH,CD]
    rw [IW, ←GI, e9]
    simp (config := {maxSteps := 3000000}) (disch := omega) only [qa,g0,g1,g2,g3,g4,g5,g6,g7,g8,g9,EL,F5,EV,ES,EM,EQ,F6,ER,F2,F7,w0,w1,w2,w3,w4,w5,w6,w7,w8,w9,F3,F0,F4,EK,EX,F8,EJ,EP,EZ,EN,Mk,Nat.reduceAdd,Nat.reduceSub,Nat.reduceMul,Nat.reduceMod,Nat.reduceDiv,Q0,U]
  · have e9 := e (999999999 - L.length)
    rw [show 999999999 - L.length+L.length+1=999999999+1 by omega] at e9
    simp only [Q0] at e9
    refine ⟨h', n', lv', ?_, H', by omega, by omega, fun q hq hqr => (o q (by omega) hqr).trans (f1 _ (K4.ne_of_lt hq)), fun hf => fr (r1 hf)⟩
    rw [B0, show BD ⟨.d0, .d0, .d13⟩ tab=some x13 from rfl, x13_L, x13L, anyB hyes]
    simp (config := {maxSteps := 3000000}) (disch := omega) only [qa,g0,g1,g2,g3,g4,g5,g6,g7,g8,g9,EL,F5,EV,ES,EM,EQ,F6,ER,F2,F7,w0,w1,w2,w3,w4,w5,w6,w7,w8,w9,F3,F0,F4,EK,EX,F8,EJ,EP,EZ,EN,Mk,Nat.reduceAdd,Nat.reduceSub,Nat.reduceMul,Nat.reduceMod,Nat.reduceDiv,Q0,U,en1,h1e,CI,CE,CH,CD]
    rw [IW, ←GI, e9]
    simp (config := {maxSteps := 3000000}) (disch := omega) only [qa,g0,g1,g2,g3,g4,g5,g6,g7,g8,g9,EL,F5,EV,ES,EM,EQ,F6,ER,F2,F7,w0,w1,w2,w3,w4,w5,w6,w7,w8,w9,F3,F0,F4,EK,EX,F8,EJ,EP,EZ,EN,Mk,Nat.reduceAdd,Nat.reduceSub,Nat.reduceMul,Nat.reduceMod,Nat.reduceDiv,Q0,U]
theorem use_r {m:Nat} {A:K4->Prop} {h:Heap} {n rp:K4} {lv:V} {L:List Itm} {t a b u:Nat} (H:RR A h n rp lv L) (hA:∀ q:K4, n.toN≤q.toN->A q) (hfr:B7 h n) (hl:(Dc t a b L).length<1000) (hn:n.toN<58000) :
    ∃ h' n' lv', Az tab (m+2) ⟨.d0, .d0, .d15⟩ [.ptr rp 0, .agg [.int .u32 t, .str a b]] h n = .rv (.tup []) h' n'∧RR A h' n' rp lv' (Dc t a b L++[⟨u, t, a, b⟩])∧n.toN≤n'.toN∧n'.toN≤n.toN+40∧(∀ q:K4, q.toN<n.toN->q≠rp->¬ A q->A8 q h'=A8 q h)∧B7 h' n' := by
  have u1 := K4.up_toN (p := n) (by omega)
  obtain ⟨h1, h1e⟩:∃ x, Af n h (some (.c (.l [.int .u32 t, .str a b]) false none))=x := ⟨_, rfl⟩
  have f1:∀ q:K4, q≠n->A8 q h1=A8 q h := fun q hq => by rw [←h1e]; exact A6 _ _ hq.symm
  have y1:A8 n h1=some (.c (.l [.int .u32 t, .str a b]) false none) := by rw [←h1e]; exact A7 _ _ _
  have H1:RR A h1 n.up rp lv L := H.frame (by omega) (f1 _ (K4.ne_of_lt H.rn)) fun q hq _ => f1 _ (K4.ne_of_lt hq)
  have r1:B7 h1 n.up := fun q hq => (f1 _ (K4.ne_of_lt (by omega)).symm).trans (hfr q (by omega))
  obtain ⟨h2, n2, lv2, e2, H2, b1, b2, o2, fr2⟩ := drop_r (m := m) (t := t) (a := a) (b := b) H1 (fun q hq => hA q (by omega)) (by omega)
  have hF2 := fr2 r1
  have v1 := K4.up16_toN (p := n2) (by omega)
  have v2 := K4.up16_toN (p := n2.up16) (by omega)
  have v3 := K4.pl_toN (p := n2) (by omega) .d0
  have hd0:D.d0.toN=0 := rfl
  have hrn := H.rn
  have y2:A8 n h2=some (.c (.l [.int .u32 t, .str a b]) false none) := (o2 n (by omega) (K4.ne_of_lt hrn).symm).trans y1
  have z2:A8 (n2.up16.pl .d0) h2=none := hF2 _ (by omega)
  obtain ⟨h3, h3e⟩:∃ x, Af (n2.up16.pl .d0) h2 (some (.c (.l [.int .u32 t, .str a b]) false none))=x := ⟨_, rfl⟩
  have f3:∀ q:K4, q≠n2.up16.pl .d0->A8 q h3=A8 q h2 := fun q hq => by rw [←h3e]; exact A6 _ _ hq.symm
  have y3:A8 (n2.up16.pl .d0) h3=some (.c (.l [.int .u32 t, .str a b]) false none) := by rw [←h3e]; exact A7 _ _ _
  have hr2 := H2.hr
  have H3:RR A h3 n2.up16.up16 rp lv2 (Dc t a b L) := H2.frame (by omega) (f3 _ (K4.ne_of_lt (by have := H2.rn; omega))) fun q hq _ => f3 _ (K4.ne_of_lt (by omega))
  have hn3:n2.up16.up16.toN<59000 := by omega
  obtain ⟨v', h4, e4, K4', o4, fr4⟩ := H3.kl.snoc (fun q hq => hA q (by omega)) ⟨u, t, a, b⟩ (by omega) (by omega)
  have w4 := K4.up_toN (p := n2.up16.up16) (by omega)
  have hr4:A8 rp h4=some (.c (.l [lv2]) false none) := (o4 rp H.na).trans H3.hr
  have est := fun κ => st1_kl K4' hr4 κ
  have eb:∀ κ:KV, EE false 1 2 [.int .u32 t, .str a b] h2 (n2.up16.pl .d0) κ=κ (.sl (n2.up16.pl .d0) 0 1 1 true 2) h3 (n2.up16.pl .d0).up := fun κ => (RU (by omega) 1 2 _ h2 κ).trans (by rw [h3e])
  have ep:∀ κ:List V->R, Gg 0 2 (.agg [.int .u32 t, .str a b]) [.int .u32 0, .str 0 0] κ=κ [.int .u32 t, .str a b] := fun κ => rfl
  have er:∀ κ:Cs->R, Pn (some (.c (.l [V.int .u32 t, V.str a b]) false none)) 0 2 κ=κ (.l [.int .u32 t, .str a b]) := fun κ => rfl
  have eW:iW 0 = .int .u32 0 := rfl
  refine ⟨Af rp h4 (some (.c (.l [v']) false none)), n2.up16.up16.up, v', ?_, ⟨A7 _ _ _, K4'.mono (Nat.le_refl _) fun q _ hq => A6 _ _ fun e => H.na (e ▸ hq), by omega, H.na, by rw [List.length_append]; show _+1≤1000; omega⟩, by omega, by omega, fun q hq hqr hqA => ?_, fun q hq => ?_⟩
  · rw [B0, show BD ⟨.d0, .d0, .d15⟩ tab=some x15 from rfl, x15]
    simp (config := {maxSteps := 3000000}) (disch := omega) only [qa,g0,g1,g2,g3,g4,g5,g6,g7,g8,g9,EL,F5,EV,ES,EM,EQ,F6,ER,F2,F7,w0,w1,w2,w3,w4,w5,w6,w7,w8,w9,F3,F0,F4,EK,EX,F8,EJ,EP,EZ,EN,Mk,Nat.reduceAdd,Nat.reduceSub,Nat.reduceMul,Nat.reduceMod,Nat.reduceDiv,Q0,U,en1,h1e,y1,ldnO_2,e2,z2,hr2,y2,eW,ep,eb,y3,er,e4,est,CI,CE,CH,CD]
  · rw [A6 _ _ (Ne.symm hqr), o4 q hqA, f3 _ (K4.ne_of_lt (by omega)), o2 q (by omega) hqr, f1 _ (K4.ne_of_lt hq)]
  · rw [A6 _ _ (K4.ne_of_lt (by omega))]
    exact fr4 (fun q hq => (f3 _ (K4.ne_of_lt (by omega)).symm).trans (hF2 q (by omega))) q hq
noncomputable def raB (c:FL):S->Heap->K4->R := fun t h n=>g4 t fun z1=>g0 t fun z2=>AL z2 fun z3=>Ax 0 z3 fun z4=>AP z4 h fun z5=>Bx z5 fun z6=>FV z1 z6 fun z7=>Ed z7 (AO 1 (AL z2 fun z8=>Ax 0 z8 fun z9=>AP z9 h fun za=>BP 2 za z1 fun zb=>Ax 0 zb fun zc=>AP zc h fun zd=>g1 t fun ze=>DW zd ze fun zf=>CQ (Ed zf (g3 t fun zg=>AL z2 fun zh=>Ax 0 zh fun zi=>AP zi h fun zj=>BP 2 zj z1 fun zk=>Ax 1 zk fun zl=>AP zl h fun zm=>Bd 0 zm [(.str 0 0)] fun zn=>EE false 1 1 zn h n fun zo h n=>Dk 1 16 zg zo h n fun zp h n=>w3 t zp fun t=>nR t h n) (nR t h n)) fun t h n=>nR t h n) fun t h n=>g4 t fun zq=>FG zq (iI 1) fun zr=>w4 t zr fun t=>nR t h n)<|.ok (.exit 0) t h n
noncomputable def x16L:Ent := .code en1 (fun c t h n=>AO 0 (w2 t (.nil .sl) fun t=>w3 t (.nil .sl) fun t=>w4 t (iI 0) fun t=>Fp (raB c) t h n) fun t h n=>g3 t fun zs=>w2 t zs fun t=>rT t h n) (fun t h n=>g2 t fun a0=>.rv a0 h n)
theorem x16_L:x16=x16L := rfl
/-- A tenant's texts. -/
def txts (t:Nat) (L:List Itm):List V := (L.filter fun x => decide (x.t=t)).map fun x => V.str x.m x.c
theorem txts_app (t:Nat) (a b:List Itm):txts t (a++b)=txts t a++txts t b := by unfold txts; rw [List.filter_append, List.map_append]
theorem txts_yes {t:Nat} {x:Itm} (h:x.t=t):txts t [x]=[.str x.m x.c] := by unfold txts; rw [List.filter_cons, if_pos (decide_eq_true h)]; rfl
theorem txts_no {t:Nat} {x:Itm} (h:¬ x.t=t):txts t [x]=[] := by unfold txts; rw [List.filter_cons, if_neg (by rw [decide_eq_false h]; decide)]; rfl
theorem txts_len (t:Nat) (L:List Itm):(txts t L).length≤L.length := by unfold txts; rw [List.length_map]; exact List.length_filter_le _ _
theorem rngO_1' (a:V) (κ:Cs->R):Pn (some (.c (.l [a]) false none)) 0 1 κ=κ (.l [a]) := id rfl
theorem ra_loop {A:K4->Prop} {c:FL} {t n0:Nat} {d2 d5 d6 d7:V} {c2 c3 c4 c5 c6 c7:SQ} {rp:K4} {lv:V} {L:List Itm} (hA:∀ q:K4, A q->q.toN<n0) (hrp:rp.toN<n0) :
    ∀ (j i:Nat) (h:Heap) (n:K4) (ov:V), i+j=L.length->RR A h n rp lv L->DU (fun q => n0≤q.toN) n h 1 ov (txts t (L.take i)) (txts t (L.take i)).length->n0≤n.toN->B7 h n->n.toN+2*j<58000 →
    ∃ h' n' ov' d4', (∀ K, J6 (raB c) (K+j+1) (.mk (.mk (.ptr rp 0) (.int .u32 t) d2 ov) (.mk (.int .i64 i) d5 d6 d7) c2 c3 c4 c5 c6 c7) h n = .ok (.exit 0) (.mk (.mk (.ptr rp 0) (.int .u32 t) d2 ov') (.mk d4' d5 d6 d7) c2 c3 c4 c5 c6 c7) h' n') ∧
      RR A h' n' rp lv L∧DU (fun q => n0≤q.toN) n' h' 1 ov' (txts t L) (txts t L).length∧n.toN≤n'.toN∧n'.toN≤n.toN+2*j∧(∀ q:K4, q.toN<n0->A8 q h'=A8 q h)∧B7 h' n' := by
  intro j
  induction j with
  | zero =>
    intro i h n ov hi H O hlo hfr hn
    obtain rfl:i=L.length := by omega
    have hll := H.ll
    have hr := H.hr
    have lln := fun κ => H.kl.len (by omega) κ
    rw [List.take_length] at O
    refine ⟨h, n, ov, .int .i64 L.length, fun K => ?_, H, O, by omega, by omega, fun q _ => rfl, hfr⟩
    rw [GI]
    unfold raB
    simp (config := {maxSteps := 3000000}) (disch := omega) only [qa,g0,g1,g2,g3,g4,g5,g6,g7,g8,g9,EL,F5,EV,ES,EM,EQ,F6,ER,F2,F7,w0,w1,w2,w3,w4,w5,w6,w7,w8,w9,F3,F0,F4,EK,EX,F8,EJ,EP,EZ,EN,Mk,Nat.reduceAdd,Nat.reduceSub,Nat.reduceMul,Nat.reduceMod,Nat.reduceDiv,Q0,U,hr,lln,CI,CE,CH,CD]
  | succ j ih =>
    intro i h n ov hi H O hlo hfr hn
    have hll := H.ll
    have hr := H.hr
    have lln := fun κ => H.kl.len (by omega) κ
    have hi':i<L.length := by omega
    obtain ⟨p, o, e1, e2, e3⟩ := H.kl.ix hi' (by omega)
    have htk:L.take (i+1)=L.take i++[L[i]] := List.take_succ_eq_append_getElem hi'
    have hln := txts_len t (L.take i)
    have hlt:(L.take i).length=i := by rw [List.length_take]; omega
    by_cases ht:L[i].t=t
    · have u1 := K4.up_toN (p := n) (by omega)
      have u2 := K4.up_toN (p := n.up) (by omega)
      obtain ⟨h1, h1e⟩:∃ x, Af n h (some (.c (.l [.str L[i].m L[i].c]) false none))=x := ⟨_, rfl⟩
      have f1:∀ q:K4, q≠n->A8 q h1=A8 q h := fun q hq => by rw [←h1e]; exact A6 _ _ hq.symm
      have y1:A8 n h1=some (.c (.l [.str L[i].m L[i].c]) false none) := by rw [←h1e]; exact A7 _ _ _
      have O1:DU (fun q => n0≤q.toN) n.up h1 1 ov (txts t (L.take i)) (txts t (L.take i)).length := O.mono (by omega) (fun q _ hq => hq) fun q hq _ => f1 _ (K4.ne_of_lt hq)
      obtain ⟨h2, e4, O2, f2, r2⟩ := Vx (eb := 16) (b := [.str L[i].m L[i].c]) (m := 1) O1 (fun q hq => by show n0≤q.toN; omega) rfl (by omega) (by omega) (by omega)
      rw [←txts_yes ht, ←txts_app, ←htk] at O2
      have hl2:(txts t (L.take i)).length+1=(txts t (L.take (i+1))).length := by rw [htk, txts_app, txts_yes ht, List.length_append]; rfl
      rw [hl2] at O2
      have rr1:B7 h1 n.up := fun q hq => (f1 _ (K4.ne_of_lt (by omega)).symm).trans (hfr q (by omega))
      have old:∀ q:K4, q.toN<n0->A8 q h2=A8 q h := fun q hq => (f2 q (by show ¬ n0≤q.toN; omega)).trans (f1 _ (K4.ne_of_lt (by omega)))
      obtain ⟨h', n', ov', d4', e, H', O', b1, b2, o', r'⟩ := ih (i+1) h2 n.up.up _ (by omega) (H.frame (by omega) (old rp hrp) fun q _ hq => old q (hA q hq)) O2 (by omega) (r2 rr1) (by omega)
      refine ⟨h', n', ov', d4', fun K => ?_, H', O', by omega, by omega, fun q hq => (o' q hq).trans (old q hq), r'⟩
      rw [show K+(j+1)+1=(K+j+1)+1 by omega, GI, ←e K]
      unfold raB
      simp (config := {maxSteps := 3000000}) (disch := omega) only [qa,g0,g1,g2,g3,g4,g5,g6,g7,g8,g9,EL,F5,EV,ES,EM,EQ,F6,ER,F2,F7,w0,w1,w2,w3,w4,w5,w6,w7,w8,w9,F3,F0,F4,EK,EX,F8,EJ,EP,EZ,EN,Mk,Nat.reduceAdd,Nat.reduceSub,Nat.reduceMul,Nat.reduceMod,Nat.reduceDiv,Q0,U,hr,lln,e1,e2,e3,ht,h1e,y1,rngO_1',e4,hl2,Nat.add_zero,De,ED,CI,CE,CH,CD]
    · have ht1:txts t (L.take (i+1))=txts t (L.take i) := by rw [htk, txts_app, txts_no ht, List.append_nil]
      obtain ⟨h', n', ov', d4', e, H', O', b1, b2, o', r'⟩ := ih (i+1) h n ov (by omega) H (by rw [ht1]; exact O) hlo hfr (by omega)
      refine ⟨h', n', ov', d4', fun K => ?_, H', O', by omega, by omega, o', r'⟩
      rw [show K+(j+1)+1=(K+j+1)+1 by omega, GI, ←e K]
      unfold raB
      simp (config := {maxSteps := 3000000}) (disch := omega) only [qa,g0,g1,g2,g3,g4,g5,g6,g7,g8,g9,EL,F5,EV,ES,EM,EQ,F6,ER,F2,F7,w0,w1,w2,w3,w4,w5,w6,w7,w8,w9,F3,F0,F4,EK,EX,F8,EJ,EP,EZ,EN,Mk,Nat.reduceAdd,Nat.reduceSub,Nat.reduceMul,Nat.reduceMod,Nat.reduceDiv,Q0,U,hr,lln,e1,e2,e3,decide_eq_false ht,Nat.add_zero,De,ED,CI,CE,CH,CD]
theorem all_r {m:Nat} {A:K4->Prop} {h:Heap} {n rp:K4} {lv:V} {L:List Itm} {t:Nat} (H:RR A h n rp lv L) (hA:∀ q:K4, A q->q.toN<n.toN) (hfr:B7 h n) (hn:n.toN<55000) :
    ∃ h' n' v', Az tab (m+1) ⟨.d0, .d1, .d0⟩ [.ptr rp 0, .int .u32 t] h n = .rv v' h' n'∧RR A h' n' rp lv L∧DU (fun q => n.toN≤q.toN) n' h' 1 v' (txts t L) (txts t L).length∧n.toN≤n'.toN∧n'.toN≤n.toN+2*L.length∧(∀ q:K4, q.toN<n.toN->A8 q h'=A8 q h)∧B7 h' n' := by
  have hll := H.ll
  obtain ⟨h', n', v', d4', e, H', O', b1, b2, o, r⟩ := ra_loop (c := Az tab m) (t := t) (d2 := .nil .sl) (d5 := B8) (d6 := B8) (d7 := B8) (c2 := Q0) (c3 := Q0) (c4 := Q0) (c5 := Q0) (c6 := Q0) (c7 := Q0) hA H.rn L.length 0 h n (.nil .sl) (by omega) H (.inl ⟨rfl, rfl, rfl⟩) (Nat.le_refl _) hfr (by omega)
  have e9 := e (999999999 - L.length)
  rw [show 999999999 - L.length+L.length+1=999999999+1 by omega] at e9
  simp only [Q0] at e9
  refine ⟨h', n', v', ?_, H', O', b1, b2, o, r⟩
  rw [B0, show BD ⟨.d0, .d1, .d0⟩ tab=some x16 from rfl, x16_L, x16L]
  simp (config := {maxSteps := 3000000}) (disch := omega) only [qa,g0,g1,g2,g3,g4,g5,g6,g7,g8,g9,EL,F5,EV,ES,EM,EQ,F6,ER,F2,F7,w0,w1,w2,w3,w4,w5,w6,w7,w8,w9,F3,F0,F4,EK,EX,F8,EJ,EP,EZ,EN,Mk,Nat.reduceAdd,Nat.reduceSub,Nat.reduceMul,Nat.reduceMod,Nat.reduceDiv,Q0,U,en1,CI,CE,CH,CD]
  rw [IW, ←GI, e9]
  simp (config := {maxSteps := 3000000}) (disch := omega) only [qa,g0,g1,g2,g3,g4,g5,g6,g7,g8,g9,EL,F5,EV,ES,EM,EQ,F6,ER,F2,F7,w0,w1,w2,w3,w4,w5,w6,w7,w8,w9,F3,F0,F4,EK,EX,F8,EJ,EP,EZ,EN,Mk,Nat.reduceAdd,Nat.reduceSub,Nat.reduceMul,Nat.reduceMod,Nat.reduceDiv,Q0,U]
noncomputable def paB (c:FL):S->Heap->K4->R := fun t h n=>g6 t fun zc=>g5 t fun zd=>FV zc zd fun ze=>Ed ze (AO 1 (g4 t fun zf=>BP 2 zf zc fun zg=>BA 2 zg h fun zh=>FW (.l [(iW 0),(.str 0 0)]) h n fun zi h n=>Gh 2 zi zh h fun h=>Ax 0 zi fun zj=>AP zj h fun zk=>g1 t fun zl=>DW zk zl fun zm=>CQ (Ed zm (g3 t fun zn=>Ax 1 zi fun zo=>AP zo h fun zp=>Bd 0 zp [(.str 0 0)] fun zq=>EE false 1 1 zq h n fun zr h n=>Dk 1 16 zn zr h n fun zs h n=>w3 t zs fun t=>nR t h n) (nR t h n)) fun t h n=>nR t h n) fun t h n=>g6 t fun zt=>FG zt (iI 1) fun zu=>w6 t zu fun t=>nR t h n)<|.ok (.exit 0) t h n
noncomputable def x20L:Ent := .code en1 (fun c t h n=>g0 t fun z1=>DT z1 h n fun z2 h n=>AP z2 h fun z3=>Hl false (.rf .ptr) z3 (.nil .ptr) fun z4=>Ed z4 (w2 t (.nil .sl) fun t=>rT t h n)<|AP z2 h fun z5=>AL z5 fun z6=>Ax 0 z6 fun z7=>AP z7 h fun z8=>AG (c ⟨.d0,.d2,.d14⟩ [z8] h n) fun z9 h n=>AG (c ⟨.d0,.d2,.d13⟩ [z9,(.fn 47 [z2])] h n) fun za h n=>Bx za fun zb=>AO 0 (w2 t (.nil .sl) fun t=>w3 t (.nil .sl) fun t=>w4 t za fun t=>w5 t zb fun t=>w6 t (iI 0) fun t=>Fp (paB c) t h n) fun t h n=>g3 t fun zv=>w2 t zv fun t=>rT t h n) (fun t h n=>g2 t fun a0=>.rv a0 h n)
theorem x20_L:x20=x20L := rfl
noncomputable def etB (c:FL):S->Heap->K4->R := fun t h n=>g3 t fun z6=>g0 t fun z7=>Bx z7 fun z8=>FV z6 z8 fun z9=>Ed z9 (AO 1 (mV z7 fun za=>mV z6 fun zb=>AM (BP 1 za zb AD) fun zc=>AM (AP zc h AD) fun zd=>g1 t fun ze=>mV ze fun zf=>mV z6 fun zg=>AM (BP 1 zf zg AD) fun zh=>AM (AP zh h AD) fun zi=>AM (G2 zd zi AD) fun zj=>Ed zj (w2 t (.bool false) fun t=>rT t h n)<|nR t h n) fun t h n=>g3 t fun zk=>FG zk (iI 1) fun zl=>w3 t zl fun t=>nR t h n)<|.ok (.exit 0) t h n
noncomputable def x19L:Ent := .code en1 (fun c t h n=>g0 t fun z1=>Bx z1 fun z2=>g1 t fun z3=>Bx z3 fun z4=>G2 z2 z4 fun z5=>Ed z5 (w2 t (.bool false) fun t=>rT t h n)<|AO 0 (w2 t (.bool false) fun t=>w3 t (iI 0) fun t=>Fp (etB c) t h n) fun t h n=>w2 t (.bool true) fun t=>rT t h n) (fun t h n=>g2 t fun a0=>.rv a0 h n)
theorem x19_L:x19=x19L := rfl
theorem flat_at {L:List Itm} {i:Nat} (hi:i<L.length):((AE L).drop (i*2)).take 2=[.int .u32 L[i].t, .str L[i].m L[i].c] := by
  rw [IM, List.drop_eq_getElem_cons hi]; rfl
theorem pa_loop {c:FL} {t n0:Nat} {d0 d2 d7:V} {c2 c3 c4 c5 c6 c7:SQ} {M:K4} {L:List Itm} (hM:M.toN<n0) (hL:L.length≤1000) :
    ∀ (j i:Nat) (h:Heap) (n:K4) (ov:V), i+j=L.length->A8 M h=some (.c (.l (AE L)) false none)->DU (fun q => n0≤q.toN) n h 1 ov (txts t (L.take i)) (txts t (L.take i)).length->n0≤n.toN->B7 h n->n.toN+3*j<58000 →
    ∃ h' n' ov' d6', (∀ K, J6 (paB c) (K+j+1) (.mk (.mk d0 (.int .u32 t) d2 ov) (.mk (.sl M 0 L.length L.length false 2) (.int .i64 L.length) (.int .i64 i) d7) c2 c3 c4 c5 c6 c7) h n = .ok (.exit 0) (.mk (.mk d0 (.int .u32 t) d2 ov') (.mk (.sl M 0 L.length L.length false 2) (.int .i64 L.length) d6' d7) c2 c3 c4 c5 c6 c7) h' n') ∧
      DU (fun q => n0≤q.toN) n' h' 1 ov' (txts t L) (txts t L).length∧n.toN≤n'.toN∧n'.toN≤n.toN+3*j∧(∀ q:K4, q.toN<n0->A8 q h'=A8 q h)∧B7 h' n' := by
  intro j
  induction j with
  | zero =>
    intro i h n ov hi H O hlo hfr hn
    obtain rfl:i=L.length := by omega
    rw [List.take_length] at O
    refine ⟨h, n, ov, .int .i64 L.length, fun K => ?_, O, by omega, by omega, fun q _ => rfl, hfr⟩
    rw [GI]
    unfold paB
    simp (config := {maxSteps := 3000000}) (disch := omega) only [qa,g0,g1,g2,g3,g4,g5,g6,g7,g8,g9,EL,F5,EV,ES,EM,EQ,F6,ER,F2,F7,w0,w1,w2,w3,w4,w5,w6,w7,w8,w9,F3,F0,F4,EK,EX,F8,EJ,EP,EZ,EN,Mk,Nat.reduceAdd,Nat.reduceSub,Nat.reduceMul,Nat.reduceMod,Nat.reduceDiv,Q0,U,CI,CE,CH,CD]
  | succ j ih =>
    intro i h n ov hi H O hlo hfr hn
    have hi':i<L.length := by omega
    have htk:L.take (i+1)=L.take i++[L[i]] := List.take_succ_eq_append_getElem hi'
    have hln := txts_len t (L.take i)
    have hlt:(L.take i).length=i := by rw [List.length_take]; omega
    have u1 := K4.up_toN (p := n) (by omega)
    have u2 := K4.up_toN (p := n.up) (by omega)
    have u3 := K4.up_toN (p := n.up.up) (by omega)
    have e1:∀ κ:V->R, S9 (A8 M h) 2 (i*2) κ=κ (.agg [.int .u32 L[i].t, .str L[i].m L[i].c]) := fun κ => by
      rw [H, X4 (by rw [BU]; omega), flat_at hi']
    obtain ⟨h1, h1e⟩:∃ x, Af n h (some (.c (.l [.int .u32 L[i].t, .str L[i].m L[i].c]) false none))=x := ⟨_, rfl⟩
    have f1:∀ q:K4, q≠n->A8 q h1=A8 q h := fun q hq => by rw [←h1e]; exact A6 _ _ hq.symm
    have y1:A8 n h1=some (.c (.l [.int .u32 L[i].t, .str L[i].m L[i].c]) false none) := by rw [←h1e]; exact A7 _ _ _
    have est:∀ κ:Heap->R, Gh 2 (.ptr n 0) (.agg [.int .u32 L[i].t, .str L[i].m L[i].c]) (Af n h (some (.c (.l [.int .u32 0, .str 0 0]) false none))) κ=κ h1 := fun κ => by
      refine (Ade (m := 2) (off := 0) (a := [.int .u32 0, .str 0 0]) (b := [.int .u32 L[i].t, .str L[i].m L[i].c]) (A7 _ _ _) rfl (Nat.le_refl 2) κ).trans ?_
      show κ (Af n (Af n h _) _)=_
      rw [I0]; exact congrArg κ h1e
    have eW:iW 0 = .int .u32 0 := rfl
    have rr1:B7 h1 n.up := fun q hq => (f1 _ (K4.ne_of_lt (by omega)).symm).trans (hfr q (by omega))
    have O1:DU (fun q => n0≤q.toN) n.up h1 1 ov (txts t (L.take i)) (txts t (L.take i)).length := O.mono (by omega) (fun q _ hq => hq) fun q hq _ => f1 _ (K4.ne_of_lt hq)
    by_cases ht:L[i].t=t
    · obtain ⟨h2, h2e⟩:∃ x, Af n.up h1 (some (.c (.l [.str L[i].m L[i].c]) false none))=x := ⟨_, rfl⟩
      have f2:∀ q:K4, q≠n.up->A8 q h2=A8 q h1 := fun q hq => by rw [←h2e]; exact A6 _ _ hq.symm
      have y2:A8 n.up h2=some (.c (.l [.str L[i].m L[i].c]) false none) := by rw [←h2e]; exact A7 _ _ _
      have O2:DU (fun q => n0≤q.toN) n.up.up h2 1 ov (txts t (L.take i)) (txts t (L.take i)).length := O1.mono (by omega) (fun q _ hq => hq) fun q hq _ => f2 _ (K4.ne_of_lt hq)
      obtain ⟨h3, e4, O3, f3, r3⟩ := Vx (eb := 16) (b := [.str L[i].m L[i].c]) (m := 1) O2 (fun q hq => by show n0≤q.toN; omega) rfl (by omega) (by omega) (by omega)
      rw [←txts_yes ht, ←txts_app, ←htk] at O3
      have hl2:(txts t (L.take i)).length+1=(txts t (L.take (i+1))).length := by rw [htk, txts_app, txts_yes ht, List.length_append]; rfl
      rw [hl2] at O3
      have rr2:B7 h2 n.up.up := fun q hq => (f2 _ (K4.ne_of_lt (by omega)).symm).trans (rr1 q (by omega))
      have old:∀ q:K4, q.toN<n0->A8 q h3=A8 q h := fun q hq => (f3 q (by show ¬ n0≤q.toN; omega)).trans ((f2 _ (K4.ne_of_lt (by omega))).trans (f1 _ (K4.ne_of_lt (by omega))))
      obtain ⟨h', n', ov', d6', e, O', b1, b2, o', r'⟩ := ih (i+1) h3 n.up.up.up _ (by omega) ((old M hM).trans H) O3 (by omega) (r3 rr2) (by omega)
      refine ⟨h', n', ov', d6', fun K => ?_, O', by omega, by omega, fun q hq => (o' q hq).trans (old q hq), r'⟩
      rw [show K+(j+1)+1=(K+j+1)+1 by omega, GI, ←e K]
      rw [ht] at e1 est y1
      unfold paB
      simp (config := {maxSteps := 3000000}) (disch := omega) only [qa,g0,g1,g2,g3,g4,g5,g6,g7,g8,g9,EL,F5,EV,ES,EM,EQ,F6,ER,F2,F7,w0,w1,w2,w3,w4,w5,w6,w7,w8,w9,F3,F0,F4,EK,EX,F8,EJ,EP,EZ,EN,Mk,Nat.reduceAdd,Nat.reduceSub,Nat.reduceMul,Nat.reduceMod,Nat.reduceDiv,Q0,U,e1,eW,est,y1,h2e,y2,rngO_1',e4,hl2,Nat.add_zero,De,ED,CI,CE,CH,CD]
    · have ht1:txts t (L.take (i+1))=txts t (L.take i) := by rw [htk, txts_app, txts_no ht, List.append_nil]
      have old:∀ q:K4, q.toN<n0->A8 q h1=A8 q h := fun q hq => f1 _ (K4.ne_of_lt (by omega))
      obtain ⟨h', n', ov', d6', e, O', b1, b2, o', r'⟩ := ih (i+1) h1 n.up ov (by omega) ((old M hM).trans H) (by rw [ht1]; exact O1) (by omega) rr1 (by omega)
      refine ⟨h', n', ov', d6', fun K => ?_, O', by omega, by omega, fun q hq => (o' q hq).trans (old q hq), r'⟩
      rw [show K+(j+1)+1=(K+j+1)+1 by omega, GI, ←e K]
      unfold paB
      simp (config := {maxSteps := 3000000}) (disch := omega) only [qa,g0,g1,g2,g3,g4,g5,g6,g7,g8,g9,EL,F5,EV,ES,EM,EQ,F6,ER,F2,F7,w0,w1,w2,w3,w4,w5,w6,w7,w8,w9,F3,F0,F4,EK,EX,F8,EJ,EP,EZ,EN,Mk,Nat.reduceAdd,Nat.reduceSub,Nat.reduceMul,Nat.reduceMod,Nat.reduceDiv,Q0,U,e1,eW,est,y1,decide_eq_false ht,Nat.add_zero,De,ED,CI,CE,CH,CD]
theorem SZ {m:Nat} {pm:K4} {h:Heap} {n:K4} (hn:n.toN<60000):Az tab (m+1) ⟨.d0, .d2, .d14⟩ [.map pm] h n = .rv (.fn 77 [.ptr n 0]) (Af n h (some (.c (.l [.map pm]) false none))) n.up := by
  rw [B0, show BD ⟨.d0, .d2, .d14⟩ tab=some x46 from rfl, x46]
  simp (config := {maxSteps := 3000000}) (disch := omega) only [qa,g0,g1,g2,g3,g4,g5,g6,g7,g8,g9,EL,F5,EV,ES,EM,EQ,F6,ER,F2,F7,w0,w1,w2,w3,w4,w5,w6,w7,w8,w9,F3,F0,F4,EK,EX,F8,EJ,EP,EZ,EN,Mk,Nat.reduceAdd,Nat.reduceSub,Nat.reduceMul,Nat.reduceMod,Nat.reduceDiv,Q0,U,en3]
theorem boxP {n:K4} (hn:n.toN<65535) (p:K4) (o:Nat) (h:Heap) (κ:KV):DT (.ptr p o) h n κ=κ (.ptr n 0) (Af n h (some (.c (.l [.ptr p o]) false none))) n.up := El hn _ _ _
theorem all_p {m:Nat} {h:Heap} {n lp pm:K4} {its L:List Itm} {N t:Nat} (H:RL h n lp pm its N) (S:RS its L N) (hfr:B7 h n) (hL:L.length≤1000) (hn:n.toN+7*L.length+20<58000) :
    ∃ h' n' v', Az tab (m+3) ⟨.d0, .d1, .d4⟩ [.ptr lp 0, .int .u32 t] h n = .rv v' h' n'∧DU (fun q => n.toN≤q.toN) n' h' 1 v' (txts t L) (txts t L).length∧n.toN≤n'.toN∧n'.toN≤n.toN+7*L.length+10∧(∀ q:K4, q.toN<n.toN->A8 q h'=A8 q h)∧B7 h' n' := by
  obtain ⟨hl, ⟨bs, k, hp, ok⟩, ln, pn, ne⟩ := H
  have hll := S.perm.length_eq
  have u1 := K4.up_toN (p := n) (by omega)
  have u2 := K4.up_toN (p := n.up) (by omega)
  obtain ⟨h1, h1e⟩:∃ x, Af n h (some (.c (.l [.ptr lp 0]) false none))=x := ⟨_, rfl⟩
  obtain ⟨h2, h2e⟩:∃ x, Af n.up h1 (some (.c (.l [.map pm]) false none))=x := ⟨_, rfl⟩
  have f1:∀ q:K4, q≠n->A8 q h1=A8 q h := fun q hq => by rw [←h1e]; exact A6 _ _ hq.symm
  have f2:∀ q:K4, q≠n.up->A8 q h2=A8 q h1 := fun q hq => by rw [←h2e]; exact A6 _ _ hq.symm
  have y1:A8 n h1=some (.c (.l [.ptr lp 0]) false none) := by rw [←h1e]; exact A7 _ _ _
  have l1 := (f1 _ (K4.ne_of_lt ln)).trans hl
  have p1 := (f1 _ (K4.ne_of_lt pn)).trans hp
  have l2 := (f2 _ (K4.ne_of_lt (by omega))).trans l1
  have p2 := (f2 _ (K4.ne_of_lt (by omega))).trans p1
  have y2:A8 n h2=some (.c (.l [.ptr lp 0]) false none) := (f2 _ (K4.ne_of_lt (by omega))).trans y1
  have z2:A8 n.up h2=some (.c (.l [.map pm]) false none) := by rw [←h2e]; exact A7 _ _ _
  have rr2:B7 h2 n.up.up := fun q hq => (f2 _ (K4.ne_of_lt (by omega)).symm).trans ((f1 _ (K4.ne_of_lt (by omega)).symm).trans (hfr q (by omega)))
  have old2:∀ q:K4, q.toN<n.toN->A8 q h2=A8 q h := fun q hq => (f2 _ (K4.ne_of_lt (by omega))).trans (f1 _ (K4.ne_of_lt hq))
  obtain ⟨M, h3, s1, s2, b1, b2, o3, fr3⟩ := TY (gk := 77) (g := 47) (n := n.up.up) z2 p2 y2 l2 ok S.bnd' S.unl' S.perm S.srt (by omega) (by omega) (by omega) (by omega) (by omega) (K4.ne_of_lt (by omega)).symm (K4.ne_of_lt (by omega)).symm (K4.ne_of_lt ln).symm
  have rr3:B7 h3 M := fun q hq => (fr3 q hq).trans (rr2 q (by omega))
  have old3:∀ q:K4, q.toN<n.toN->A8 q h3=A8 q h := fun q hq => (o3 q (by omega)).trans (old2 q hq)
  have ek := SZ (m := m+1) (pm := pm) (h := h1) (n := n.up) (by omega)
  rw [h2e] at ek
  have es:Az tab (m+2) ⟨.d0, .d2, .d13⟩ [.fn 77 [.ptr n.up 0], .fn 47 [.ptr n 0]] h2 n.up.up=KC (GP 77 47 [.fn 77 [.ptr n.up 0], .fn 47 [.ptr n 0]] h2 n.up.up) := by
    rw [B0, show BD ⟨.d0, .d2, .d13⟩ tab=some (.prim (GP 77 47)) from rfl]; rfl
  by_cases h0:its=[]
  · subst h0
    obtain rfl:L=[] := List.eq_nil_of_length_eq_zero hll
    rw [s1 rfl] at es
    have es':Az tab (m+2) ⟨.d0, .d2, .d13⟩ [.fn 77 [.ptr n.up 0], .fn 47 [.ptr n 0]] h2 n.up.up = .rv (.nil .sl) h3 M := es
    refine ⟨h3, M, .nil .sl, ?_, .inl ⟨rfl, rfl, rfl⟩, by omega, by simp at b2 ⊢; omega, old3, rr3⟩
    rw [B0, show BD ⟨.d0, .d1, .d4⟩ tab=some x20 from rfl, x20_L, x20L]
    simp (config := {maxSteps := 3000000}) (disch := omega) only [qa,g0,g1,g2,g3,g4,g5,g6,g7,g8,g9,EL,F5,EV,ES,EM,EQ,F6,ER,F2,F7,w0,w1,w2,w3,w4,w5,w6,w7,w8,w9,F3,F0,F4,EK,EX,F8,EJ,EP,EZ,EN,Mk,Nat.reduceAdd,Nat.reduceSub,Nat.reduceMul,Nat.reduceMod,Nat.reduceDiv,Q0,U,en1,boxP,h1e,y1,l1,ek,es',CI,CE,CH,CD]
    rw [IW]
    unfold paB
    simp (config := {maxSteps := 3000000}) (disch := omega) only [qa,g0,g1,g2,g3,g4,g5,g6,g7,g8,g9,EL,F5,EV,ES,EM,EQ,F6,ER,F2,F7,w0,w1,w2,w3,w4,w5,w6,w7,w8,w9,F3,F0,F4,EK,EX,F8,EJ,EP,EZ,EN,Mk,Nat.reduceAdd,Nat.reduceSub,Nat.reduceMul,Nat.reduceMod,Nat.reduceDiv,Q0,U,CI,CE,CH,CD]
  · obtain ⟨M', b3, b4, s3, s4⟩ := s2 h0
    rw [s3] at es
    have es':Az tab (m+2) ⟨.d0, .d2, .d13⟩ [.fn 77 [.ptr n.up 0], .fn 47 [.ptr n 0]] h2 n.up.up = .rv (.sl M' 0 L.length L.length false 2) h3 M := es
    obtain ⟨h', n', v', d6', e, O', b5, b6, o', r'⟩ := pa_loop (c := Az tab (m+2)) (t := t) (n0 := M.toN) (d0 := .ptr lp 0) (d2 := .nil .sl) (d7 := B8) (c2 := Q0) (c3 := Q0) (c4 := Q0) (c5 := Q0) (c6 := Q0) (c7 := Q0) (M := M') (L := L) (by omega) hL L.length 0 h3 M (.nil .sl) (by omega) s4 (.inl ⟨rfl, rfl, rfl⟩) (Nat.le_refl _) rr3 (by omega)
    have e9 := e (999999999 - L.length)
    rw [show 999999999 - L.length+L.length+1=999999999+1 by omega] at e9
    simp only [Q0] at e9
    refine ⟨h', n', v', ?_, O'.mono (Nat.le_refl _) (fun q _ hq => by have hq:M.toN≤q.toN := hq; show n.toN≤q.toN; omega) (fun q _ _ => rfl), by omega, by omega, fun q hq => (o' q (by omega)).trans (old3 q hq), r'⟩
    rw [B0, show BD ⟨.d0, .d1, .d4⟩ tab=some x20 from rfl, x20_L, x20L]
    simp (config := {maxSteps := 3000000}) (disch := omega) only [qa,g0,g1,g2,g3,g4,g5,g6,g7,g8,g9,EL,F5,EV,ES,EM,EQ,F6,ER,F2,F7,w0,w1,w2,w3,w4,w5,w6,w7,w8,w9,F3,F0,F4,EK,EX,F8,EJ,EP,EZ,EN,Mk,Nat.reduceAdd,Nat.reduceSub,Nat.reduceMul,Nat.reduceMod,Nat.reduceDiv,Q0,U,en1,boxP,h1e,y1,l1,ek,es',CI,CE,CH,CD]
    rw [IW, ←GI, e9]
    simp (config := {maxSteps := 3000000}) (disch := omega) only [qa,g0,g1,g2,g3,g4,g5,g6,g7,g8,g9,EL,F5,EV,ES,EM,EQ,F6,ER,F2,F7,w0,w1,w2,w3,w4,w5,w6,w7,w8,w9,F3,F0,F4,EK,EX,F8,EJ,EP,EZ,EN,Mk,Nat.reduceAdd,Nat.reduceSub,Nat.reduceMul,Nat.reduceMod,Nat.reduceDiv,Q0,U]
noncomputable def lawT (c:FL):S->Heap->K4->R := fun t h n=>g3 t fun z12=>g5 t fun z13=>Ax 0 z13 fun z14=>AP z14 h fun z15=>AG (c ⟨.d0,.d1,.d0⟩ [z12,z15] h n) fun z16 h n=>g2 t fun z17=>Ax 0 z13 fun z18=>AP z18 h fun z19=>AG (c ⟨.d0,.d1,.d1⟩ [z17,z19] h n) fun z1a h n=>Do 0 z1a fun z1b=>Do 1 z1a fun z1c=>mV z17 fun z1d=>mV z12 fun z1e=>AM (AL z1e AD) fun z1f=>AM (Ax 0 z1f AD) fun z1g=>AM (AP z1g h AD) fun z1h=>AM (Bx z1h AD) fun z1i=>Ij (AG (c ⟨.d0,.d1,.d2⟩ [z1d] h n) .rv) fun z1j h n=>AM (G2 z1j z1i AD) fun z1k=>mV z1k fun z1l=>FJ false z1l (fun k=>AM (AD z17) k) fun z1m=>FJ false z1l (fun k=>AM (Ax 0 z13 AD) k) fun z1n=>FJ false z1l (fun k=>AM (AP z1n h AD) k) fun z1o=>FJ false z1l (fun k=>AM (AD z16) k) fun z1p=>AM (AP z1g h AD) fun v=>AN z1h v<|Ur false z1l h n (fun k=>Ij (AG (c ⟨.d0,.d1,.d4⟩ [z1m,z1o] h n) .rv) k) fun z1q h n=>Ur false z1l h n (fun k=>Ij (AG (c ⟨.d0,.d1,.d3⟩ [z1q,z1p] h n) .rv) k) fun z1r h n=>FJ false z1l (fun k=>AM (Hy z1r AD) k) fun z1s=>AM (C9 z1l (.bool true) z1s AD) fun z1t=>mV z1t fun z1u=>FJ false z1u (fun k=>AM (AD z1c) k) fun z1v=>FJ false z1u (fun k=>AM (AD z16) k) fun z1w=>FJ false z1u (fun k=>AM (Bx z1w AD) k) fun z1x=>FJ false z1u (fun k=>AM (Pt z1x (iI 0) AD) k) fun z1y=>FJ false z1u (fun k=>AM (Hl true (.sc .b) z1v z1y AD) k) fun z1z=>AM (C9 z1u (.bool true) z1z AD) fun z20=>mV z20 fun z21=>FJ false z21 (fun k=>AM (AD z1c) k) fun z22=>FJ false z21 (fun k=>AM (AD z22) k) fun z23=>gA z23 (AD z1b) fun z24=>gA z23 (AD z16) fun z25=>gA z23 (BP 1 z25 (iI 0) AD) fun z26=>gA z23 (AP z26 h AD) fun z27=>gA z23 (G2 z24 z27 AD) fun z28=>FJ false z21 (fun k=>AM (C9 z23 z28 (.bool false) AD) k) fun z29=>AM (C9 z21 (.bool true) z29 AD) fun z2a=>mV z2a fun z2b=>FJ false z2b (fun k=>AM (AD z1c) k) fun z2c=>FJ false z2b (fun k=>AM (Hy z2c AD) k) fun z2d=>FJ false z2b (fun k=>AM (AD z2d) k) fun z2e=>gA z2e (AD z1b) fun z2f=>gA z2e (G2 z2f (.str 0 0) AD) fun z2g=>FJ false z2b (fun k=>AM (C9 z2e z2g (.bool false) AD) k) fun z2h=>AM (C9 z2b (.bool true) z2h AD) fun z2i=>Ed z2i (w1 t (.bool false) fun t=>rT t h n)<|nR t h n
noncomputable def lawB (c:FL):S->Heap->K4->R := fun t h n=>g4 t fun z5=>g0 t fun z6=>Bx z6 fun z7=>FV z5 z7 fun z8=>gK z8 z5 h n fun z9 h n=>gO z8 h n (fun k=>FV z9 (iI 60) k) fun za h n=>C9 z8 za (.bool false) fun zb=>Ed zb (AO 1 (BP 3 z6 z5 fun zc=>Ax 1 zc fun zd=>BA 2 zd h fun ze=>FW (.l [(iW 0),(.str 0 0)]) h n fun zf h n=>Gh 2 zf ze h fun h=>Ax 1 zf fun zg=>AP zg h fun zh=>AG (c ⟨.d0,.d0,.d11⟩ [zh,(iI 20)] h n) fun zi h n=>Ax 1 zf fun zj=>Dj zj zi h fun h=>BP 3 z6 z5 fun zk=>Ax 0 zk fun zl=>AP zl h fun zm=>CQ (Ed zm (g2 t fun zn=>mV zn fun zo=>AM (BA 2 zf h AD) fun zp=>g3 t fun zq=>mV zq fun zr=>AM (BA 2 zf h AD) fun zs=>Ij (AG (c ⟨.d0,.d0,.d12⟩ [zo,zp] h n) .rv) fun zt h n=>AM (BA 2 zf h AD) fun v=>AN zs v<|Ij (AG (c ⟨.d0,.d0,.d13⟩ [zr,zs] h n) .rv) fun zu h n=>AM (Hl true (.sc .b) zt zu AD) fun zv=>Ed zv (w1 t (.bool false) fun t=>w5 t zf fun t=>rT t h n)<|w5 t zf fun t=>nR t h n) (g2 t fun zw=>BA 2 zf h fun zx=>AG (c ⟨.d0,.d0,.d14⟩ [zw,zx] h n) fun zy h n=>g3 t fun zz=>BA 2 zf h fun z10=>AG (c ⟨.d0,.d0,.d15⟩ [zz,z10] h n) fun z11 h n=>w5 t zf fun t=>nR t h n)) (lawT c)) fun t h n=>g4 t fun z2j=>FG z2j (iI 1) fun z2k=>w4 t z2k fun t=>nR t h n)<|.ok (.exit 0) t h n
noncomputable def x3L:Ent := .code en3 (fun c t h n=>AG (c ⟨.d0,.d0,.d9⟩ [] h n) fun z1 h n=>Hy z1 fun z2=>Ed z2 (w1 t (.bool false) fun t=>rT t h n)<|AG (c ⟨.d0,.d0,.d10⟩ [] h n) fun z3 h n=>DT (.agg [(.nil .sl)]) h n fun z4 h n=>AO 0 (w1 t (.bool false) fun t=>w2 t z3 fun t=>w3 t z4 fun t=>w4 t (iI 0) fun t=>Fp (lawB c) t h n) fun t h n=>w1 t (.bool true) fun t=>rT t h n) (fun t h n=>g1 t fun a0=>.rv a0 h n)
theorem x3_L:x3=x3L := rfl
theorem KL.imp {A A':K4->Prop} {n:K4} {h:Heap} {v:V} {L:List Itm} (H:KL A n h v L) (hA:∀ q:K4, q.toN<n.toN->A q->A' q):KL A' n h v L := by
  rcases H with H | ⟨p, a, s, pr, ex, h1, h2, h3, h4, h5, h6, h7⟩
  · exact .inl H
  · refine .inr ⟨p, a, s, pr, ex, h1, h2, h3, h4, hA p h6 h5, h6, ?_⟩
    rcases h7 with h7 | ⟨h7, h8, h9⟩
    · exact .inl h7
    · refine .inr ⟨h7, h8, ?_⟩
      rcases h9 with h9 | ⟨q, h9, h10, h11⟩
      · exact .inl h9
      · exact .inr ⟨q, h9, hA q h11 h10, h11⟩
theorem KL.same {A:K4->Prop} {n:K4} {h:Heap} {v:V} {L:List Itm} (H:KL A n h v L) (κ:R):AN v v κ=κ := by
  rcases H with ⟨rfl, _⟩ | ⟨p, a, s, pr, ex, rfl, _⟩
  · exact W5 _ _
  · exact RY _ _ _ _ _ _ _
theorem txts_str {t:Nat} {L:List Itm}:∀ {i:Nat} {x:V}, (txts t L)[i]? = some x->∃ m c, x = .str m c := fun {i x} h => by
  unfold txts at h
  obtain ⟨y, hy, rfl⟩ := List.mem_map.1 (List.mem_of_getElem? h)
  exact ⟨_, _, rfl⟩
theorem neS_self (m c:Nat) (κ:V->R):G2 (.str m c) (.str m c) κ=κ (.bool false) := by
  show br (Dl m c m c) (κ (.bool false)) (κ (.bool true))=_
  rw [Hz, decide_eq_true rfl, decide_eq_true rfl]; rfl
theorem oldest_no {m:Nat} {h:Heap} {n lp pm:K4} {its L:List Itm} {N t:Nat} (H:RL h n lp pm its N) (S:RS its L N) (hfr:B7 h n) (hL:L.length≤1000) (hn:n.toN+7*L.length+20<58000) (h0:txts t L=[]) :
    ∃ h' n', Az tab (m+4) ⟨.d0, .d1, .d1⟩ [.ptr lp 0, .int .u32 t] h n = .rv (.tup [.str 0 0, .bool false]) h' n'∧n.toN≤n'.toN∧n'.toN≤n.toN+7*L.length+10∧(∀ q:K4, q.toN<n.toN->A8 q h'=A8 q h)∧B7 h' n' := by
  obtain ⟨h', n', v', e, O, b1, b2, o, r⟩ := all_p (m := m) (t := t) H S hfr hL hn
  have ln:∀ κ:V->R, Bx v' κ=κ (.int .i64 0) := fun κ => by
    have := O.len (by rw [h0]; decide) κ
    rw [h0] at this; exact this
  refine ⟨h', n', ?_, b1, b2, o, r⟩
  rw [B0, show BD ⟨.d0, .d1, .d1⟩ tab=some x17 from rfl, x17]
  simp (config := {maxSteps := 3000000}) (disch := omega) only [qa,g0,g1,g2,g3,g4,g5,g6,g7,g8,g9,EL,F5,EV,ES,EM,EQ,F6,ER,F2,F7,w0,w1,w2,w3,w4,w5,w6,w7,w8,w9,F3,F0,F4,EK,EX,F8,EJ,EP,EZ,EN,Mk,Nat.reduceAdd,Nat.reduceSub,Nat.reduceMul,Nat.reduceMod,Nat.reduceDiv,Q0,U,en1,e,ln,CI,CE,CH,CD]
theorem oldest_yes {m:Nat} {h:Heap} {n lp pm:K4} {its L:List Itm} {N t:Nat} {x:V} {l:List V} (H:RL h n lp pm its N) (S:RS its L N) (hfr:B7 h n) (hL:L.length≤1000) (hn:n.toN+7*L.length+20<58000) (h0:txts t L=x::l) :
    ∃ h' n', Az tab (m+4) ⟨.d0, .d1, .d1⟩ [.ptr lp 0, .int .u32 t] h n = .rv (.tup [x, .bool true]) h' n'∧n.toN≤n'.toN∧n'.toN≤n.toN+7*L.length+10∧(∀ q:K4, q.toN<n.toN->A8 q h'=A8 q h)∧B7 h' n' := by
  obtain ⟨h', n', v', e, O, b1, b2, o, r⟩ := all_p (m := m) (t := t) H S hfr hL hn
  have hlen := txts_len t L
  have ln := fun κ => O.len (by omega) κ
  have hl2:(txts t L).length=l.length+1 := by rw [h0]; rfl
  obtain ⟨p, of, e1, _, e3⟩ := (O.ls [] (fun q hq => by cases hq)).ix (i := 0) (by omega) (by decide)
  have e4 := fun κ => e3 0 x κ (by rw [h0]; rfl)
  simp only [Nat.add_zero] at e4
  refine ⟨h', n', ?_, b1, b2, o, r⟩
  rw [B0, show BD ⟨.d0, .d1, .d1⟩ tab=some x17 from rfl, x17]
  simp (config := {maxSteps := 3000000}) (disch := omega) only [qa,g0,g1,g2,g3,g4,g5,g6,g7,g8,g9,EL,F5,EV,ES,EM,EQ,F6,ER,F2,F7,w0,w1,w2,w3,w4,w5,w6,w7,w8,w9,F3,F0,F4,EK,EX,F8,EJ,EP,EZ,EN,Mk,Nat.reduceAdd,Nat.reduceSub,Nat.reduceMul,Nat.reduceMod,Nat.reduceDiv,Q0,U,en1,e,ln,e1,e4,CI,CE,CH,CD]
theorem et_loop {c:FL} {d2:V} {c1 c2 c3 c4 c5 c6 c7:SQ} {h:Heap} {n n1 n2:K4} {v1 v2:V} {l:List V} (O1:LS h n1 [] 1 v1 l l.length) (O2:LS h n2 [] 1 v2 l l.length) (hs:∀ {i:Nat} {x:V}, l[i]? = some x->∃ m c, x = .str m c) (hl:l.length≤1000) :
    ∀ (j i:Nat), i+j=l.length->∃ d3', ∀ K, J6 (etB c) (K+j+1) (.mk (.mk v1 v2 d2 (.int .i64 i)) c1 c2 c3 c4 c5 c6 c7) h n = .ok (.exit 0) (.mk (.mk v1 v2 d2 d3') c1 c2 c3 c4 c5 c6 c7) h n := by
  have ln1 := fun κ => O1.len (by omega) κ
  intro j
  induction j with
  | zero =>
    intro i hi
    obtain rfl:i=l.length := by omega
    refine ⟨.int .i64 l.length, fun K => ?_⟩
    rw [GI]
    unfold etB
    simp (config := {maxSteps := 3000000}) (disch := omega) only [qa,g0,g1,g2,g3,g4,g5,g6,g7,g8,g9,EL,F5,EV,ES,EM,EQ,F6,ER,F2,F7,w0,w1,w2,w3,w4,w5,w6,w7,w8,w9,F3,F0,F4,EK,EX,F8,EJ,EP,EZ,EN,Mk,Nat.reduceAdd,Nat.reduceSub,Nat.reduceMul,Nat.reduceMod,Nat.reduceDiv,Q0,U,ln1,CI,CE,CH,CD]
  | succ j ih =>
    intro i hi
    have hi':i<l.length := by omega
    obtain ⟨a, b, hx⟩ := hs (List.getElem?_eq_getElem hi')
    obtain ⟨p, of, e1, _, e3⟩ := O1.ix hi' (by omega)
    obtain ⟨p2, of2, e4, _, e6⟩ := O2.ix hi' (by omega)
    have e3' := fun κ => e3 0 (.str a b) κ (by rw [Nat.mul_one, Nat.add_zero, List.getElem?_eq_getElem hi', hx])
    have e6' := fun κ => e6 0 (.str a b) κ (by rw [Nat.mul_one, Nat.add_zero, List.getElem?_eq_getElem hi', hx])
    simp only [Nat.add_zero] at e3' e6'
    obtain ⟨d3', e⟩ := ih (i+1) (by omega)
    refine ⟨d3', fun K => ?_⟩
    rw [show K+(j+1)+1=(K+j+1)+1 by omega, GI, ←e K]
    unfold etB
    simp (config := {maxSteps := 3000000}) (disch := omega) only [qa,g0,g1,g2,g3,g4,g5,g6,g7,g8,g9,EL,F5,EV,ES,EM,EQ,F6,ER,F2,F7,w0,w1,w2,w3,w4,w5,w6,w7,w8,w9,F3,F0,F4,EK,EX,F8,EJ,EP,EZ,EN,Mk,Nat.reduceAdd,Nat.reduceSub,Nat.reduceMul,Nat.reduceMod,Nat.reduceDiv,Q0,U,ln1,e1,e4,e3',e6',neS_self,CI,CE,CH,CD]
theorem et_ok {m:Nat} {h:Heap} {n n1 n2:K4} {v1 v2:V} {l:List V} (O1:LS h n1 [] 1 v1 l l.length) (O2:LS h n2 [] 1 v2 l l.length) (hs:∀ {i:Nat} {x:V}, l[i]? = some x->∃ m c, x = .str m c) (hl:l.length≤1000) :
    Az tab (m+1) ⟨.d0, .d1, .d3⟩ [v1, v2] h n = .rv (.bool true) h n := by
  have ln1 := fun κ => O1.len (by omega) κ
  have ln2 := fun κ => O2.len (by omega) κ
  obtain ⟨d3', e⟩ := et_loop (c := Az tab m) (d2 := .bool false) (c1 := Q0) (c2 := Q0) (c3 := Q0) (c4 := Q0) (c5 := Q0) (c6 := Q0) (c7 := Q0) (n := n) O1 O2 hs hl l.length 0 (by omega)
  have e9 := e (999999999 - l.length)
  rw [show 999999999 - l.length+l.length+1=999999999+1 by omega] at e9
  simp only [Q0] at e9
  rw [B0, show BD ⟨.d0, .d1, .d3⟩ tab=some x19 from rfl, x19_L, x19L]
  simp (config := {maxSteps := 3000000}) (disch := omega) only [qa,g0,g1,g2,g3,g4,g5,g6,g7,g8,g9,EL,F5,EV,ES,EM,EQ,F6,ER,F2,F7,w0,w1,w2,w3,w4,w5,w6,w7,w8,w9,F3,F0,F4,EK,EX,F8,EJ,EP,EZ,EN,Mk,Nat.reduceAdd,Nat.reduceSub,Nat.reduceMul,Nat.reduceMod,Nat.reduceDiv,Q0,U,en1,ln1,ln2,CI,CE,CH,CD]
  rw [IW, ←GI, e9]
  simp (config := {maxSteps := 3000000}) (disch := omega) only [qa,g0,g1,g2,g3,g4,g5,g6,g7,g8,g9,EL,F5,EV,ES,EM,EQ,F6,ER,F2,F7,w0,w1,w2,w3,w4,w5,w6,w7,w8,w9,F3,F0,F4,EK,EX,F8,EJ,EP,EZ,EN,Mk,Nat.reduceAdd,Nat.reduceSub,Nat.reduceMul,Nat.reduceMod,Nat.reduceDiv,Q0,U]
/-- The state between two rounds. -/
structure ST (n0:Nat) (h:Heap) (n lp pm rp:K4) (lv:V) (its L:List Itm) (N:Nat):Prop where
  rl:RL h n lp pm its N
  rr:RR (fun q => n0≤q.toN) h n rp lv L
  rs:RS its L N
  fr:B7 h n
  nn:n0≤n.toN
  l0:lp.toN<n0
  p0:pm.toN<n0
  r0:rp.toN<n0
  lr:lp≠rp
  pr:pm≠rp
theorem ST.up {n0:Nat} {h h':Heap} {n n' lp pm rp:K4} {lv:V} {its L:List Itm} {N:Nat} (H:ST n0 h n lp pm rp lv its L N) (hn:n.toN≤n'.toN) (o:∀ q:K4, q.toN<n.toN->A8 q h'=A8 q h) (hf:B7 h' n'):ST n0 h' n' lp pm rp lv its L N :=
  ⟨H.rl.frame hn (o _ H.rl.ln) (o _ H.rl.pn), H.rr.frame hn (o _ H.rr.rn) fun q hq _ => o q hq, H.rs, hf, Nat.le_trans H.nn hn, H.l0, H.p0, H.r0, H.lr, H.pr⟩
theorem eqB_tt (κ:V->R):Hl true (.sc .b) (.bool true) (.bool true) κ=κ (.bool false) := by kernel_rfl
theorem eqB_ff (κ:V->R):Hl true (.sc .b) (.bool false) (.bool false) κ=κ (.bool false) := by kernel_rfl
theorem neS_0 (κ:V->R):G2 (.str 0 0) (.str 0 0) κ=κ (.bool false) := neS_self 0 0 κ
/-- What a round checks. -/
theorem tail_ok {m n0 t i:Nat} {ov d1:V} {d6 d7:V} {c2 c3 c4 c5 c6 c7:SQ} {h:Heap} {n lp pm rp kb:K4} {lv x:V} {its L:List Itm} {N:Nat} (H:ST n0 h n lp pm rp lv its L N) (hk:A8 kb h=some (.c (.l [.int .u32 t, x]) false none)) (hkn:kb.toN<n.toN) (hL:L.length≤1000) (hn:n.toN+16*L.length+100<55000) :
    ∃ h' n', lawT (Az tab (m+5)) (.mk (.mk ov d1 (.ptr lp 0) (.ptr rp 0)) (.mk (.int .i64 i) (.ptr kb 0) d6 d7) c2 c3 c4 c5 c6 c7) h n = .ok .nrm (.mk (.mk ov d1 (.ptr lp 0) (.ptr rp 0)) (.mk (.int .i64 i) (.ptr kb 0) d6 d7) c2 c3 c4 c5 c6 c7) h' n'∧ST n0 h' n' lp pm rp lv its L N∧n'.toN≤n.toN+16*L.length+20 := by
  have hll := H.rs.perm.length_eq
  have hlen := txts_len t L
  have RA:RR (fun q => n0≤q.toN∧q.toN<n.toN) h n rp lv L := ⟨H.rr.hr, KL.imp H.rr.kl fun q hq h => ⟨h, hq⟩, H.rr.rn, fun h => H.rr.na h.1, H.rr.ll⟩
  obtain ⟨h1, n1, v1, e1, _, O1, b1, b2, o1, r1⟩ := all_r (m := m+4) (t := t) RA (fun q h => h.2) H.fr (by omega)
  have S1:ST n0 h1 n1 lp pm rp lv its L N := H.up b1 o1 r1
  have k1 := (o1 kb hkn).trans hk
  have hrr := S1.rr.hr
  have lln := fun κ => S1.rr.kl.len (by omega) κ
  have hsame := fun κ => KL.same S1.rr.kl κ
  have LS1 := O1.ls [] (fun q hq => by cases hq)
  have ln1 := fun κ => LS1.len (by omega) κ
  rcases hc:txts t L with _ | ⟨y, l⟩
  · obtain ⟨h2, n2, e2, b3, b4, o2, r2⟩ := oldest_no (m := m+1) (t := t) S1.rl S1.rs S1.fr hL (by omega) hc
    have S2 := S1.up b3 o2 r2
    have k2 := (o2 kb (by omega)).trans k1
    have hr2 := S2.rr.hr
    have lln2 := fun κ => S2.rr.kl.len (by omega) κ
    have el := len_ok (m := m+4) S2.rl (by omega)
    obtain ⟨h3, n3, v3, e3, O3, b5, b6, o3, r3⟩ := all_p (m := m+2) (t := t) S2.rl S2.rs S2.fr hL (by omega)
    have S3 := S2.up b5 o3 r3
    have LS3 := O3.ls [] (fun q hq => by cases hq)
    have LS1' := LS1.more (n' := n3) (h' := h3) (by omega) fun p hp => (o3 p (by omega)).trans (o2 p hp)
    have e4 := et_ok (m := m+4) (n := n3) LS3 LS1' txts_str (by omega)
    have hl0:(txts t L).length=0 := by rw [hc]; rfl
    rw [hl0] at ln1
    refine ⟨h3, n3, ?_, S3, by omega⟩
    unfold lawT
    simp (config := {maxSteps := 3000000}) (disch := omega) only [qa,g0,g1,g2,g3,g4,g5,g6,g7,g8,g9,EL,F5,EV,ES,EM,EQ,F6,ER,F2,F7,w0,w1,w2,w3,w4,w5,w6,w7,w8,w9,F3,F0,F4,EK,EX,F8,EJ,EP,EZ,EN,Mk,Nat.reduceAdd,Nat.reduceSub,Nat.reduceMul,Nat.reduceMod,Nat.reduceDiv,Q0,U,hk,e1,k1,e2,el,hr2,lln2,k2,e3,e4,hll,ln1,hsame,eqB_tt,eqB_ff,neS_0,De,ED,CI,CE,CH,CD]
  · obtain ⟨a, b, rfl⟩ := txts_str (t := t) (L := L) (i := 0) (x := y) (by rw [hc]; rfl)
    obtain ⟨h2, n2, e2, b3, b4, o2, r2⟩ := oldest_yes (m := m+1) (t := t) S1.rl S1.rs S1.fr hL (by omega) hc
    have S2 := S1.up b3 o2 r2
    have k2 := (o2 kb (by omega)).trans k1
    have hr2 := S2.rr.hr
    have lln2 := fun κ => S2.rr.kl.len (by omega) κ
    have el := len_ok (m := m+4) S2.rl (by omega)
    obtain ⟨h3, n3, v3, e3, O3, b5, b6, o3, r3⟩ := all_p (m := m+2) (t := t) S2.rl S2.rs S2.fr hL (by omega)
    have S3 := S2.up b5 o3 r3
    have LS3 := O3.ls [] (fun q hq => by cases hq)
    have LS1' := LS1.more (n' := n3) (h' := h3) (by omega) fun p hp => (o3 p (by omega)).trans (o2 p hp)
    have e4 := et_ok (m := m+4) (n := n3) LS3 LS1' txts_str (by omega)
    have hl0:(txts t L).length=l.length+1 := by rw [hc]; rfl
    obtain ⟨p, of, e5, _, e7⟩ := LS1'.ix (i := 0) (by omega) (by decide)
    have e8 := fun κ => e7 0 (.str a b) κ (by rw [hc]; rfl)
    simp only [Nat.add_zero] at e8
    refine ⟨h3, n3, ?_, S3, by omega⟩
    unfold lawT
    simp (config := {maxSteps := 3000000}) (disch := omega) only [qa,g0,g1,g2,g3,g4,g5,g6,g7,g8,g9,EL,F5,EV,ES,EM,EQ,F6,ER,F2,F7,w0,w1,w2,w3,w4,w5,w6,w7,w8,w9,F3,F0,F4,EK,EX,F8,EJ,EP,EZ,EN,Mk,Nat.reduceAdd,Nat.reduceSub,Nat.reduceMul,Nat.reduceMod,Nat.reduceDiv,Q0,U,hk,e1,k1,e2,el,hr2,lln2,k2,e3,e4,hll,ln1,e5,e8,hsame,eqB_tt,eqB_ff,neS_self,De,ED,CI,CE,CH,CD]
theorem delI_len {t a c:Nat}:∀ L:List Itm, (Dc t a c L).length≤L.length
  | [] => Nat.le_refl _
  | x::l => by
    rw [Dc]
    cases Itm.isB t a c x with
    | true => show l.length≤l.length+1; omega
    | false => show (Dc t a c l).length+1≤l.length+1; have := delI_len (t := t) (a := a) (c := c) l; omega
theorem rvOps_at:∀ (rs:List OpR) (i:Nat) (h:i<rs.length), ∃ t, (BH rs).drop (i*3)=Mr (rs[i]'h)++t
  | [], i, h => by cases h
  | r::rs, 0, _ => ⟨BH rs, by rw [BH, Nat.zero_mul, List.drop_zero]; rfl⟩
  | r::rs, i+1, h => by
    obtain ⟨t, e⟩ := rvOps_at rs i (by rw [List.length_cons] at h; omega)
    refine ⟨t, ?_⟩
    rw [BH, show (i+1)*3=(Mr r).length+i*3 by show _=3+_; omega, ←List.drop_drop, List.drop_left' rfl]
    exact e
theorem ix_rx3 {l:List RV} {m i:Nat} (hi:i<m) (h2:i<9223372036854775808) (κ:V->R):BP 3 (.oth (.rx l m 3)) (.int .i64 i) κ=κ (.oth (.rp (l.drop (i*3)))) := by
  show br (Nat.ble (Nat.succ i) 9223372036854775808) (br (Nat.beq 3 3) (br (Nat.ble (Nat.succ i) m) (Ac (Nat.mul i 3) fun j => κ (.oth (.rp (l.drop j)))) (.fail "")) (.fail "")) (.fail "")=_
  rw [show Nat.ble (Nat.succ i) 9223372036854775808=true from A9.2 (by omega), Ab, Nat.beq_refl, Ab, show Nat.ble (Nat.succ i) m=true from A9.2 hi, Ab, Aa]; rfl
theorem fad_rp {l:List RV} {k:Nat} (h:k<l.length) (κ:V->R):Ax k (.oth (.rp l)) κ=κ (.oth (.rp (l.drop k))) := by
  show br (Nat.ble (Nat.succ k) l.length) (κ (.oth (.rp (l.drop k)))) _=_
  rw [show Nat.ble (Nat.succ k) l.length=true from A9.2 h, Ab]
theorem ldn_rp2 (a b:RV) (t:List RV) (h:Heap) (κ:V->R):BA 2 (.oth (.rp (a::b::t))) h κ=κ (.agg [a.v, b.v]) := by
  show br (Nat.ble 2 (a::b::t).length) (κ (.agg (((a::b::t).take 2).map RV.v))) (.fail "")=_
  rw [show Nat.ble 2 (a::b::t).length=true from A9.2 (by simp), Ab]; rfl
/-- An operation's key. -/
def kt (o:OpR):List UInt8 := o.b.take 20
theorem kt_len (o:OpR):(kt o).length≤20 := by unfold kt; rw [List.length_take]; omega
theorem la_round {m n0 i:Nat} {d1 d5:V} {c2 c3 c4 c5 c6 c7:SQ} {h:Heap} {n lp pm rp:K4} {lv:V} {its L:List Itm} {N:Nat} {ops:List OpR} (H:ST n0 h n lp pm rp lv its L N) (hi:i<ops.length) (hi6:i<60) (hK:ops.length<9223372036854775808) (hin:Qt (ops[i]'hi)) (hL:L.length≤i) (hN:N≤i) (hn:n.toN+16*(i+1)+200<55000) :
    ∃ h' n' lv' its' L' N' d5', lawB (Az tab (m+5)) (.mk (.mk (.oth (.rx (BH ops) ops.length 3)) d1 (.ptr lp 0) (.ptr rp 0)) (.mk (.int .i64 i) d5 B8 B8) c2 c3 c4 c5 c6 c7) h n = .ok .nrm (.mk (.mk (.oth (.rx (BH ops) ops.length 3)) d1 (.ptr lp 0) (.ptr rp 0)) (.mk (.int .i64 (i+1)) d5' B8 B8) c2 c3 c4 c5 c6 c7) h' n' ∧
      ST n0 h' n' lp pm rp lv' its' L' N'∧L'.length≤i+1∧N'≤i+1∧n'.toN≤n.toN+16*(i+1)+70 := by
  have u1 := K4.up_toN (p := n) (by omega)
  have u2 := K4.up_toN (p := n.up) (by omega)
  obtain ⟨t9, et⟩ := rvOps_at ops i hi
  obtain ⟨ot, ol⟩ := hin
  have hkl := kt_len (ops[i]'hi)
  have hktl:(kt (ops[i]'hi))=(ops[i]'hi).b.take 20 := rfl
  have ei:∀ κ:V->R, BP 3 (.oth (.rx (BH ops) ops.length 3)) (.int .i64 i) κ=κ (.oth (.rp (Mr (ops[i]'hi)++t9))) := fun κ => by rw [ix_rx3 hi (by omega), et]
  generalize ops[i]'hi=o at *
  have ef1:∀ κ:V->R, Ax 1 (.oth (.rp (Mr o++t9))) κ=κ (.oth (.rp (.i .u32 o.t :: .s o.b.length (Al o.b)::t9))) := fun κ => fad_rp (by show 1<_+1; simp) κ
  have ef0:∀ κ:V->R, Ax 0 (.oth (.rp (Mr o++t9))) κ=κ (.oth (.rp (Mr o++t9))) := fun κ => fad_rp (by show 0<_+1; omega) κ
  have eln:∀ (h:Heap) (κ:V->R), BA 2 (.oth (.rp (.i .u32 o.t :: .s o.b.length (Al o.b)::t9))) h κ=κ (.agg [.int .u32 o.t, sb o.b]) := fun h κ => ldn_rp2 _ _ _ h κ
  have eld:∀ (h:Heap) (κ:V->R), AP (.oth (.rp (Mr o++t9))) h κ=κ (.bool o.drop) := fun h κ => Adq (.b o.drop) _ h κ
  have lln:∀ κ, Bx (.oth (.rx (BH ops) ops.length 3)) κ=κ (.int .i64 ops.length) := fun κ => P5 hK κ
  have ec := fun (h:Heap) (n:K4) => cutS_ok (m := m+4) (k := 20) (l := o.b) (h := h) (n := n) ol (by omega)
  rw [←hktl] at ec
  have eW:iW 0 = .int .u32 0 := rfl
  obtain ⟨h1, h1e⟩:∃ x, Af n h (some (.c (.l [.int .u32 o.t, sb o.b]) false none))=x := ⟨_, rfl⟩
  obtain ⟨hk, hke⟩:∃ x, Af n h1 (some (.c (.l [.int .u32 o.t, sb (kt o)]) false none))=x := ⟨_, rfl⟩
  have f1:∀ q:K4, q≠n->A8 q h1=A8 q h := fun q hq => by rw [←h1e]; exact A6 _ _ hq.symm
  have fk:∀ q:K4, q≠n->A8 q hk=A8 q h1 := fun q hq => by rw [←hke]; exact A6 _ _ hq.symm
  have y1:A8 n h1=some (.c (.l [.int .u32 o.t, sb o.b]) false none) := by rw [←h1e]; exact A7 _ _ _
  have yk:A8 n hk=some (.c (.l [.int .u32 o.t, sb (kt o)]) false none) := by rw [←hke]; exact A7 _ _ _
  have est:∀ κ:Heap->R, Gh 2 (.ptr n 0) (.agg [.int .u32 o.t, sb o.b]) (Af n h (some (.c (.l [.int .u32 0, .str 0 0]) false none))) κ=κ h1 := fun κ => by
    refine (Ade (m := 2) (off := 0) (a := [.int .u32 0, .str 0 0]) (b := [.int .u32 o.t, sb o.b]) (A7 _ _ _) rfl (Nat.le_refl 2) κ).trans ?_
    show κ (Af n (Af n h _) _)=_
    rw [I0]; exact congrArg κ h1e
  have es1:∀ κ:Heap->R, Dj (.ptr n 1) (sb (kt o)) h1 κ=κ hk := fun κ => by
    have:Dj (.ptr n 1) (.str (kt o).length (Al (kt o))) h1 κ=κ (Af n h1 (some (.c (.l [.int .u32 o.t, .str (kt o).length (Al (kt o))]) false none))) := by simp (disch := omega) only [qa,g0,g1,g2,g3,g4,g5,g6,g7,g8,g9,EL,F5,EV,ES,EM,EQ,F6,ER,F2,F7,w0,w1,w2,w3,w4,w5,w6,w7,w8,w9,F3,F0,F4,EK,EX,F8,EJ,EP,EZ,EN,Mk,Nat.reduceAdd,Nat.reduceSub,Nat.reduceMul,Nat.reduceMod,Nat.reduceDiv,Q0,U,y1]
    exact this.trans (congrArg κ hke)
  have oldk:∀ q:K4, q.toN<n.toN->A8 q hk=A8 q h := fun q hq => (fk q (K4.ne_of_lt hq)).trans (f1 q (K4.ne_of_lt hq))
  have Fk:B7 hk n.up := fun q hq => (fk q (K4.ne_of_lt (by omega)).symm).trans ((f1 q (K4.ne_of_lt (by omega)).symm).trans (H.fr q (by omega)))
  have Lk:RL hk n.up lp pm its N := H.rl.frame (by omega) (oldk _ H.rl.ln) (oldk _ H.rl.pn)
  have nk:n0≤n.toN := H.nn
  have ⟨l0, p0, r0⟩:lp.toN<n0∧pm.toN<n0∧rp.toN<n0 := ⟨H.l0, H.p0, H.r0⟩
  have Rk:RR (fun q => n0≤q.toN∧q≠n) hk n.up rp lv L := ⟨(oldk _ H.rr.rn).trans H.rr.hr, (KL.imp H.rr.kl fun q hq h => ⟨h, K4.ne_of_lt hq⟩).mono (by omega) fun q hq h => oldk q (by have := h.2; rcases Nat.lt_or_ge q.toN n.toN with h' | h'; exact h'; exact absurd (K4.toN_inj (by omega)) h.2), by omega, fun h => absurd h.1 (by omega), H.rr.ll⟩
  have hAk:∀ (j:K4), n.up.toN≤j.toN->∀ q:K4, j.toN≤q.toN->n0≤q.toN∧q≠n := fun j hj q hq => ⟨by omega, (K4.ne_of_lt (by omega)).symm⟩
  have weak:∀ {h':Heap} {n':K4} {lv':V} {L':List Itm}, RR (fun q => n0≤q.toN∧q≠n) h' n' rp lv' L'->RR (fun q => n0≤q.toN) h' n' rp lv' L' := fun R => ⟨R.hr, KL.imp R.kl fun q _ h => h.1, R.rn, fun h => by omega, R.ll⟩
  have hcb:Al (kt o)<256 ^ (kt o).length := Sj _
  have hdl := delI_len (t := o.t) (a := (kt o).length) (c := Al (kt o)) L
  have hNs:N+1<4611686018427387904 := by omega
  -- an operation, then what is checked
  have key:∀ (h3:Heap) (n3:K4) (lv':V) (its' L':List Itm) (N':Nat), ST n0 h3 n3 lp pm rp lv' its' L' N'->A8 n h3=some (.c (.l [.int .u32 o.t, sb (kt o)]) false none)->n.toN<n3.toN->n3.toN≤n.toN+50->L'.length≤i+1->N'≤i+1 →
      ∃ h' n', lawT (Az tab (m+5)) (.mk (.mk (.oth (.rx (BH ops) ops.length 3)) d1 (.ptr lp 0) (.ptr rp 0)) (.mk (.int .i64 i) (.ptr n 0) B8 B8) c2 c3 c4 c5 c6 c7) h3 n3 = .ok .nrm (.mk (.mk (.oth (.rx (BH ops) ops.length 3)) d1 (.ptr lp 0) (.ptr rp 0)) (.mk (.int .i64 i) (.ptr n 0) B8 B8) c2 c3 c4 c5 c6 c7) h' n'∧ST n0 h' n' lp pm rp lv' its' L' N'∧n'.toN≤n.toN+16*(i+1)+70 := by
    intro h3 n3 lv' its' L' N' S3 k3 b1 b2 b3 b4
    obtain ⟨h', n', e, S', b⟩ := tail_ok (m := m) (ov := .oth (.rx (BH ops) ops.length 3)) (d1 := d1) (i := i) (d6 := B8) (d7 := B8) (c2 := c2) (c3 := c3) (c4 := c4) (c5 := c5) (c6 := c6) (c7 := c7) S3 k3 b1 (by omega) (by omega)
    exact ⟨h', n', e, S', by omega⟩
  cases hd:o.drop with
  | false =>
    obtain ⟨h2, e2, L2, o2, fr2⟩ := use_ok (m := m+4) (t := o.t) (a := (kt o).length) (c := Al (kt o)) Lk (by omega) (by omega)
    have R2:RR (fun q => n0≤q.toN∧q≠n) h2 n.up.up rp lv L := Rk.frame (by omega) (o2 _ Rk.rn H.lr.symm H.pr.symm) fun q hq h => o2 q hq (fun e => by subst e; have := h.1; omega) fun e => by subst e; have := h.1; omega
    obtain ⟨h3, n3, lv', e3, R3, b1, b2, o3, fr3⟩ := use_r (m := m+3) (t := o.t) (a := (kt o).length) (b := Al (kt o)) (u := N+1) R2 (hAk n.up.up (by omega)) (fr2 Fk) (by omega) (by omega)
    have ynk:A8 n h3=some (.c (.l [.int .u32 o.t, sb (kt o)]) false none) := (o3 n (by omega) (K4.ne_of_lt (by omega)).symm (fun h => h.2 rfl)).trans ((o2 n (by omega) (K4.ne_of_lt (by omega)).symm (K4.ne_of_lt (by omega)).symm).trans yk)
    have S3:ST n0 h3 n3 lp pm rp lv' (GA (N+1) o.t (kt o).length (Al (kt o)) its) (Dc o.t (kt o).length (Al (kt o)) L++[⟨N+1, o.t, (kt o).length, Al (kt o)⟩]) (N+1) :=
      ⟨L2.frame (by omega) (o3 _ (by omega) H.lr (fun h => by have := h.1; omega)) (o3 _ (by omega) H.pr (fun h => by have := h.1; omega)), weak R3, H.rs.use ot hcb hNs, fr3, by omega, l0, p0, r0, H.lr, H.pr⟩
    obtain ⟨h', n', e, S', b⟩ := key h3 n3 lv' _ _ _ S3 ynk (by omega) (by omega) (by rw [List.length_append]; show _+1≤_; omega) (by omega)
    have e2':Az tab (m+5) ⟨.d0, .d0, .d14⟩ [.ptr lp 0, .agg [.int .u32 o.t, sb (kt o)]] hk n.up = .rv (.tup []) h2 n.up.up := e2
    have e3':Az tab (m+5) ⟨.d0, .d0, .d15⟩ [.ptr rp 0, .agg [.int .u32 o.t, sb (kt o)]] h2 n.up.up = .rv (.tup []) h3 n3 := e3
    refine ⟨h', n', lv', _, _, _, .ptr n 0, ?_, S', by rw [List.length_append]; show _+1≤_; omega, by omega, b⟩
    unfold lawB
    simp (config := {maxSteps := 3000000}) (disch := omega) only [qa,g0,g1,g2,g3,g4,g5,g6,g7,g8,g9,EL,F5,EV,ES,EM,EQ,F6,ER,F2,F7,w0,w1,w2,w3,w4,w5,w6,w7,w8,w9,F3,F0,F4,EK,EX,F8,EJ,EP,EZ,EN,Mk,Nat.reduceAdd,Nat.reduceSub,Nat.reduceMul,Nat.reduceMod,Nat.reduceDiv,Q0,U,lln,ei,ef1,ef0,eln,eld,eW,est,y1,ec,es1,hd,yk,ldnO_2,e2',e3',e,(o2 n (by omega) (K4.ne_of_lt (by omega)).symm (K4.ne_of_lt (by omega)).symm),De,ED,CI,CE,CH,CD]
  | true =>
    have hmem:(∃ x∈its, Itm.isB o.t (kt o).length (Al (kt o)) x=true) ↔ ∃ x∈L, Itm.isB o.t (kt o).length (Al (kt o)) x=true :=
      ⟨fun ⟨x, hx, hb⟩ => ⟨x, H.rs.perm.mem_iff.2 hx, hb⟩, fun ⟨x, hx, hb⟩ => ⟨x, H.rs.perm.mem_iff.1 hx, hb⟩⟩
    by_cases hB:∃ x∈L, Itm.isB o.t (kt o).length (Al (kt o)) x=true
    · have g1' := Qq (t := o.t) (m := (kt o).length) (c := Al (kt o)) (l := its) (fun y hy => (H.rs.bnd y (H.rs.perm.mem_iff.2 hy)).2.1) (hmem.2 hB)
      have g2' := To (t := o.t) (m := (kt o).length) (c := Al (kt o)) (b := N+1) (by omega) (l := its) fun y hy => by have := (H.rs.bnd y (H.rs.perm.mem_iff.2 hy)).2.2; omega
      obtain ⟨h2, e2, L2, o2, fr2⟩ := drop_yes (m := m+4) (t := o.t) (a := (kt o).length) (c := Al (kt o)) Lk g1' (by omega) (by omega)
      have R2:RR (fun q => n0≤q.toN∧q≠n) h2 n.up.up rp lv L := Rk.frame (by omega) (o2 _ Rk.rn H.pr.symm) fun q hq h => o2 q hq fun e => by subst e; have := h.1; omega
      obtain ⟨h3, n3, lv', e3, R3, b1, b2, o3, fr3⟩ := drop_r (m := m+4) (t := o.t) (a := (kt o).length) (b := Al (kt o)) R2 (hAk n.up.up (by omega)) (by omega)
      have y2k:A8 n h2=some (.c (.l [.int .u32 o.t, sb (kt o)]) false none) := (o2 n (by omega) (K4.ne_of_lt (by omega)).symm).trans yk
      have ynk:A8 n h3=some (.c (.l [.int .u32 o.t, sb (kt o)]) false none) := (o3 n (by omega) (K4.ne_of_lt (by omega)).symm).trans y2k
      have S3:ST n0 h3 n3 lp pm rp lv' (Dc o.t (kt o).length (Al (kt o)) its) (Dc o.t (kt o).length (Al (kt o)) L) N :=
        ⟨L2.frame (by omega) (o3 _ (by omega) H.lr) (o3 _ (by omega) H.pr), weak R3, H.rs.drop, fr3 (fr2 Fk), by omega, l0, p0, r0, H.lr, H.pr⟩
      obtain ⟨h', n', e, S', b⟩ := key h3 n3 lv' _ _ _ S3 ynk (by omega) (by omega) (by omega) (by omega)
      have e2':Az tab (m+5) ⟨.d0, .d0, .d12⟩ [.ptr lp 0, .agg [.int .u32 o.t, sb (kt o)]] hk n.up = .rv (.bool true) h2 n.up.up := e2
      have e3':Az tab (m+5) ⟨.d0, .d0, .d13⟩ [.ptr rp 0, .agg [.int .u32 o.t, sb (kt o)]] h2 n.up.up = .rv (.bool true) h3 n3 := by rw [anyB hB] at e3; exact e3
      have hsk:∀ κ:R, AN (.agg [.int .u32 o.t, sb (kt o)]) (.agg [.int .u32 o.t, sb (kt o)]) κ=κ := fun κ => (show AN (.int .u32 o.t) (.int .u32 o.t) (AN (.str (kt o).length (Al (kt o))) (.str (kt o).length (Al (kt o))) κ)=κ by rw [Ka, JQ])
      refine ⟨h', n', lv', _, _, _, .ptr n 0, ?_, S', by omega, by omega, b⟩
      unfold lawB
      simp (config := {maxSteps := 3000000}) (disch := omega) only [qa,g0,g1,g2,g3,g4,g5,g6,g7,g8,g9,EL,F5,EV,ES,EM,EQ,F6,ER,F2,F7,w0,w1,w2,w3,w4,w5,w6,w7,w8,w9,F3,F0,F4,EK,EX,F8,EJ,EP,EZ,EN,Mk,Nat.reduceAdd,Nat.reduceSub,Nat.reduceMul,Nat.reduceMod,Nat.reduceDiv,Q0,U,lln,ei,ef1,ef0,eln,eld,eW,est,y1,ec,es1,hd,yk,y2k,ldnO_2,e2',e3',e,hsk,eqB_tt,eqB_ff,De,ED,CI,CE,CH,CD]
    · have hno:∀ x∈L, Itm.isB o.t (kt o).length (Al (kt o)) x=false := fun x hx => by
        cases hb:Itm.isB o.t (kt o).length (Al (kt o)) x with
        | false => rfl
        | true => exact absurd ⟨x, hx, hb⟩ hB
      have g1' := Tg (t := o.t) (m := (kt o).length) (c := Al (kt o)) (l := its) fun y hy => hno y (H.rs.perm.mem_iff.2 hy)
      obtain ⟨h2, e2, L2, o2, fr2⟩ := drop_no (m := m+4) (t := o.t) (a := (kt o).length) (c := Al (kt o)) Lk g1' (by omega)
      have R2:RR (fun q => n0≤q.toN∧q≠n) h2 n.up.up rp lv L := Rk.frame (by omega) (o2 _ Rk.rn) fun q hq h => o2 q hq
      obtain ⟨h3, n3, lv', e3, R3, b1, b2, o3, fr3⟩ := drop_r (m := m+4) (t := o.t) (a := (kt o).length) (b := Al (kt o)) R2 (hAk n.up.up (by omega)) (by omega)
      rw [Pi hno] at R3
      have y2k:A8 n h2=some (.c (.l [.int .u32 o.t, sb (kt o)]) false none) := (o2 n (by omega)).trans yk
      have ynk:A8 n h3=some (.c (.l [.int .u32 o.t, sb (kt o)]) false none) := (o3 n (by omega) (K4.ne_of_lt (by omega)).symm).trans y2k
      have S3:ST n0 h3 n3 lp pm rp lv' its L N :=
        ⟨L2.frame (by omega) (o3 _ (by omega) H.lr) (o3 _ (by omega) H.pr), weak R3, H.rs, fr3 (fr2 Fk), by omega, l0, p0, r0, H.lr, H.pr⟩
      obtain ⟨h', n', e, S', b⟩ := key h3 n3 lv' _ _ _ S3 ynk (by omega) (by omega) (by omega) (by omega)
      have e2':Az tab (m+5) ⟨.d0, .d0, .d12⟩ [.ptr lp 0, .agg [.int .u32 o.t, sb (kt o)]] hk n.up = .rv (.bool false) h2 n.up.up := e2
      have e3':Az tab (m+5) ⟨.d0, .d0, .d13⟩ [.ptr rp 0, .agg [.int .u32 o.t, sb (kt o)]] h2 n.up.up = .rv (.bool false) h3 n3 := by rw [anyB_no hno] at e3; exact e3
      have hsk:∀ κ:R, AN (.agg [.int .u32 o.t, sb (kt o)]) (.agg [.int .u32 o.t, sb (kt o)]) κ=κ := fun κ => (show AN (.int .u32 o.t) (.int .u32 o.t) (AN (.str (kt o).length (Al (kt o))) (.str (kt o).length (Al (kt o))) κ)=κ by rw [Ka, JQ])
      refine ⟨h', n', lv', _, _, _, .ptr n 0, ?_, S', by omega, by omega, b⟩
      unfold lawB
      simp (config := {maxSteps := 3000000}) (disch := omega) only [qa,g0,g1,g2,g3,g4,g5,g6,g7,g8,g9,EL,F5,EV,ES,EM,EQ,F6,ER,F2,F7,w0,w1,w2,w3,w4,w5,w6,w7,w8,w9,F3,F0,F4,EK,EX,F8,EJ,EP,EZ,EN,Mk,Nat.reduceAdd,Nat.reduceSub,Nat.reduceMul,Nat.reduceMod,Nat.reduceDiv,Q0,U,lln,ei,ef1,ef0,eln,eld,eW,est,y1,ec,es1,hd,yk,y2k,ldnO_2,e2',e3',e,hsk,eqB_tt,eqB_ff,De,ED,CI,CE,CH,CD]
theorem begun12:Acn (Az tab 30 ⟨.d0, .d0, .d9⟩ [] Aq SA)=true := by kernel_rfl
def nB:Nat->Nat
  | 0 => 260
  | i+1 => nB i+16*(i+1)+70
theorem nB_le:∀ i, i<61->nB i≤40000 := by decide
theorem la_loop {m n0:Nat} {lv0 d1:V} {c2 c3 c4 c5 c6 c7:SQ} {lp pm rp:K4} {ops:List OpR} (HL:(lv0 = .nil .sl∧ops=[])∨lv0 = .oth (.rx (BH ops) ops.length 3)) (hK:ops.length<9223372036854775808) (hin:∀ r∈ops, Qt r) :
    ∀ (j i:Nat) (h:Heap) (n:K4) (lv d5:V) (its L:List Itm) (N:Nat), i+j=min ops.length 60->ST n0 h n lp pm rp lv its L N->L.length≤i->N≤i->n.toN≤nB i →
    ∃ h' n' i' d5', ∀ K, J6 (lawB (Az tab (m+5))) (K+j+1) (.mk (.mk lv0 d1 (.ptr lp 0) (.ptr rp 0)) (.mk (.int .i64 i) d5 B8 B8) c2 c3 c4 c5 c6 c7) h n = .ok (.exit 0) (.mk (.mk lv0 d1 (.ptr lp 0) (.ptr rp 0)) (.mk i' d5' B8 B8) c2 c3 c4 c5 c6 c7) h' n' := by
  have lln:∀ κ, Bx lv0 κ=κ (.int .i64 ops.length) := fun κ => by
    rcases HL with ⟨rfl, rfl⟩ | rfl
    · rfl
    · exact P5 hK κ
  intro j
  induction j with
  | zero =>
    intro i h n lv d5 its L N hi H hL hN hn
    refine ⟨h, n, .int .i64 i, d5, fun K => ?_⟩
    rw [GI]
    unfold lawB
    rcases Nat.lt_or_ge ops.length 61 with h7 | h7
    · rcases Nat.lt_or_ge ops.length 60 with h8 | h8
      · have e:i=ops.length := by omega
        rw [e]
        simp (config := {maxSteps := 3000000}) (disch := omega) only [qa,g0,g1,g2,g3,g4,g5,g6,g7,g8,g9,EL,F5,EV,ES,EM,EQ,F6,ER,F2,F7,w0,w1,w2,w3,w4,w5,w6,w7,w8,w9,F3,F0,F4,EK,EX,F8,EJ,EP,EZ,EN,Mk,Nat.reduceAdd,Nat.reduceSub,Nat.reduceMul,Nat.reduceMod,Nat.reduceDiv,Q0,U,lln,ED,De,CI,CE,CH,CD]
      · have e:i=ops.length := by omega
        rw [e]
        simp (config := {maxSteps := 3000000}) (disch := omega) only [qa,g0,g1,g2,g3,g4,g5,g6,g7,g8,g9,EL,F5,EV,ES,EM,EQ,F6,ER,F2,F7,w0,w1,w2,w3,w4,w5,w6,w7,w8,w9,F3,F0,F4,EK,EX,F8,EJ,EP,EZ,EN,Mk,Nat.reduceAdd,Nat.reduceSub,Nat.reduceMul,Nat.reduceMod,Nat.reduceDiv,Q0,U,lln,ED,De,CI,CE,CH,CD]
    · obtain rfl:i=60 := by omega
      simp (config := {maxSteps := 3000000}) (disch := omega) only [qa,g0,g1,g2,g3,g4,g5,g6,g7,g8,g9,EL,F5,EV,ES,EM,EQ,F6,ER,F2,F7,w0,w1,w2,w3,w4,w5,w6,w7,w8,w9,F3,F0,F4,EK,EX,F8,EJ,EP,EZ,EN,Mk,Nat.reduceAdd,Nat.reduceSub,Nat.reduceMul,Nat.reduceMod,Nat.reduceDiv,Q0,U,lln,ED,De,CI,CE,CH,CD]
  | succ j ih =>
    intro i h n lv d5 its L N hi H hL hN hn
    have hi':i<ops.length := by omega
    obtain rfl:lv0 = .oth (.rx (BH ops) ops.length 3) := by
      rcases HL with ⟨_, rfl⟩ | h
      · cases hi'
      · exact h
    have hb := nB_le i (by omega)
    obtain ⟨h1, n1, lv1, its1, L1, N1, d51, e1, S1, b1, b2, b3⟩ := la_round (m := m) (d1 := d1) (d5 := d5) (c2 := c2) (c3 := c3) (c4 := c4) (c5 := c5) (c6 := c6) (c7 := c7) H hi' (by omega) hK (hin _ (List.getElem_mem hi')) hL hN (by omega)
    obtain ⟨h', n', i', d5', e⟩ := ih (i+1) h1 n1 lv1 d51 its1 L1 N1 (by omega) S1 b1 b2 (by show n1.toN≤nB i+16*(i+1)+70; omega)
    refine ⟨h', n', i', d5', fun K => ?_⟩
    rw [show K+(j+1)+1=(K+j+1)+1 by omega, GI, e1, Vw]
    exact e K
theorem ra_run {lv:V} {rs:List OpR} (HL:(lv = .nil .sl∧rs=[])∨lv = .oth (.rx (BH rs) rs.length 3)) (hK:rs.length<9223372036854775808) (hin:∀ r∈rs, Qt r) :
    V0 (Az tab 31 ⟨.d0, .d0, .d3⟩ [lv] Aq SA)=true := by
  obtain ⟨h1, n1, e1, b1, r1⟩ := Aab begun12
  obtain ⟨h2, e2, L2, o2, r2⟩ := new_ok (m := 29) (h := h1) (n := n1) (by omega)
  have u1 := K4.up_toN (p := n1) (by omega)
  have u2 := K4.up_toN (p := n1.up) (by omega)
  have u3 := K4.up_toN (p := n1.up.up) (by omega)
  obtain ⟨h3, h3e⟩:∃ x, Af n1.up.up h2 (some (.c (.l [.nil .sl]) false none))=x := ⟨_, rfl⟩
  have f3:∀ q:K4, q≠n1.up.up->A8 q h3=A8 q h2 := fun q hq => by rw [←h3e]; exact A6 _ _ hq.symm
  have S3:ST n1.up.up.up.toN h3 n1.up.up.up n1.up n1 n1.up.up (.nil .sl) [] [] 0 :=
    ⟨L2.frame (by omega) (f3 _ (K4.ne_of_lt (by omega))) (f3 _ (K4.ne_of_lt (by omega))), ⟨by rw [←h3e]; exact A7 _ _ _, .inl ⟨rfl, rfl⟩, by omega, by show ¬ n1.up.up.up.toN≤n1.up.up.toN; omega, by decide⟩, RS.nil,
      fun q hq => (f3 q (K4.ne_of_lt (by omega)).symm).trans (r2 r1 q (by omega)), Nat.le_refl _, by omega, by omega, by omega, K4.ne_of_lt (by omega), K4.ne_of_lt (by omega)⟩
  obtain ⟨h', n', i', d5', e⟩ := la_loop (m := 25) (d1 := .bool false) (c2 := Q0) (c3 := Q0) (c4 := Q0) (c5 := Q0) (c6 := Q0) (c7 := Q0) HL hK hin (min rs.length 60) 0 h3 n1.up.up.up (.nil .sl) B8 [] [] 0 (by omega) S3 (by decide) (by decide) (by show n1.up.up.up.toN≤260; omega)
  have e9 := e (999999999 - min rs.length 60)
  rw [show 999999999 - min rs.length 60+min rs.length 60+1=999999999+1 by omega, show 25+5=30 from rfl] at e9
  simp only [Q0] at e9
  generalize hR:Az tab 31 ⟨.d0, .d0, .d3⟩ [lv] Aq SA=R0
  rw [B0, show BD ⟨.d0, .d0, .d3⟩ tab=some x3 from rfl, x3_L, x3L] at hR
  simp (config := {maxSteps := 3000000}) (disch := omega) only [qa,g0,g1,g2,g3,g4,g5,g6,g7,g8,g9,EL,F5,EV,ES,EM,EQ,F6,ER,F2,F7,w0,w1,w2,w3,w4,w5,w6,w7,w8,w9,F3,F0,F4,EK,EX,F8,EJ,EP,EZ,EN,Mk,Nat.reduceAdd,Nat.reduceSub,Nat.reduceMul,Nat.reduceMod,Nat.reduceDiv,Q0,U,en3,e1,e2,h3e,CI,CE,CH,CD] at hR
  rw [IW, ←GI, e9] at hR
  simp (config := {maxSteps := 3000000}) (disch := omega) only [qa,g0,g1,g2,g3,g4,g5,g6,g7,g8,g9,EL,F5,EV,ES,EM,EQ,F6,ER,F2,F7,w0,w1,w2,w3,w4,w5,w6,w7,w8,w9,F3,F0,F4,EK,EX,F8,EJ,EP,EZ,EN,Mk,Nat.reduceAdd,Nat.reduceSub,Nat.reduceMul,Nat.reduceMod,Nat.reduceDiv,Q0,U] at hR
  rw [←hR]; rfl
end Go.Ev.Ytdgefeadbcbglaa
