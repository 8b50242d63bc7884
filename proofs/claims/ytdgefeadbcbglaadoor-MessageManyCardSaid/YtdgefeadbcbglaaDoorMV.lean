/- What the functions do, as equations over their texts, 1. -/
import Derived.Test.YtdgefeadbcbglaaDoorMK
import Derived.KernelRfl
namespace Go.Ev.YtdgefeadbcbglaaDoor
open Go Go.Ev
set_option linter.unusedVariables false
set_option linter.unusedSimpArgs false
noncomputable def geL (c:DZ):S->Heap->K4->R := fun t h n=>g6 t fun z3=>g5 t fun z4=>AR z3 z4 fun z5=>AY z5 (Aj 1 (g4 t fun z6=>Bl 2 z6 z3 fun z7=>FM 2 z7 h fun z8=>Dc (.l [(.str 0 0),(.str 0 0)]) h n fun z9 h n=>Bn 2 z9 z8 h fun h=>Al 0 z9 fun za=>Az za h fun zb=>Ai (c ⟨.d0,.d5,.d0⟩ [zb] h n) fun zc h n=>g1 t fun zd=>Ai (c ⟨.d0,.d5,.d0⟩ [zd] h n) fun ze h n=>AW zc ze fun zf=>Br (AY zf (g3 t fun zg=>Al 1 z9 fun zh=>Az zh h fun zi=>Ag 0 zi [(.str 0 0)] fun zj=>CN false 1 1 zj h n fun zk h n=>HR 1 16 zg zk h n fun zl h n=>w3 t zl fun t=>nR t h n) (nR t h n)) fun t h n=>nR t h n) fun t h n=>g6 t fun zm=>Ap zm (iI 1) fun zn=>w6 t zn fun t=>nR t h n)<|.ok (.exit 0) t h n
noncomputable def x79L:Ent := .code en1 (fun c t h n=>g0 t fun z1=>B3 z1 fun z2=>Aj 0 (w2 t (.nil .sl) fun t=>w3 t (.nil .sl) fun t=>w4 t z1 fun t=>w5 t z2 fun t=>w6 t (iI 0) fun t=>Bd (geL c) t h n) fun t h n=>g3 t fun zo=>w2 t zo fun t=>rT t h n) (fun t h n=>g2 t fun a0=>.rv a0 h n)
theorem x79_L:x79=x79L := rfl
theorem read_ok {m:Nat} {bp:K4} {o N:Nat} {ex:Bool} {h:Heap} {n:K4} {l:List UInt8} {s:Bool} {pr:Option K4} {me ta nm v w rest:List UInt8} (hp:A8 bp h=some (.c (cb l) s pr)) (ho:o+N=l.length) (hN:N<900000000)
    (ha:At l o ((me++32::(ta++32::verL))++13::10::((nm++58::v)++13::10::13::10::rest))) (h1:tokB me=true) (h2:tarB ta=true) (h3:tokB nm=true) (h4:trimB v=w) (h5:valB w=true) (hw:w.length<800000000) (hs1:∀ x∈me++32::(ta++32::verL), plainB x=true) (hs2:∀ x∈nm++58::v, plainB x=true)
    (hl:me.length+ta.length+nm.length+v.length<1900) (hb:bp.toN<n.toN) (hn:n.toN<57000) :
    ∃ h' n' q, Ar tab (m+9) ⟨.d0, .d3, .d13⟩ [.sl bp o N N ex 1] h n = .rv (.tup [.agg [sb me, sb ta, .sl q 0 1 1 false 2, .str 0 0], .int .i64 ((me++32::(ta++32::verL)).length+(nm++58::v).length+6), .int .i64 0]) h' n' ∧
      A8 q h'=some (.c (.l [sb nm, sb w]) false none)∧n.toN≤q.toN∧q.toN<n'.toN∧n.toN≤n'.toN∧n'.toN≤n.toN+5∧(∀ x:K4, x.toN<n.toN->A8 x h'=A8 x h)∧(Bc h n->Bc h' n') := by
  have u1 := K4.up_toN (p := n) (by omega)
  have u2 := K4.up_toN (p := n.up) (by omega)
  obtain ⟨j1, j1e⟩:∃ x, Af n h (some (.c (.l [.str 0 0, .str 0 0, .nil .sl, .str 0 0]) false none))=x := ⟨_, rfl⟩
  have f1:∀ q:K4, q≠n->A8 q j1=A8 q h := fun q hq => by rw [←j1e]; exact A7 _ _ hq.symm
  have y1:A8 n j1=some (.c (.l [.str 0 0, .str 0 0, .nil .sl, .str 0 0]) false none) := by rw [←j1e]; exact A6 _ _ _
  obtain ⟨j2, j2e⟩:∃ x, Af n.up j1 (some (.c (.l [.str 0 0, .str 0 0, .nil .sl, .str 0 0, .bool false]) false none))=x := ⟨_, rfl⟩
  have f2:∀ q:K4, q≠n.up->A8 q j2=A8 q j1 := fun q hq => by rw [←j2e]; exact A7 _ _ hq.symm
  have y2:A8 n.up j2=some (.c (.l [.str 0 0, .str 0 0, .nil .sl, .str 0 0, .bool false]) false none) := by rw [←j2e]; exact A6 _ _ _
  have y1':A8 n j2=some (.c (.l [.str 0 0, .str 0 0, .nil .sl, .str 0 0]) false none) := (f2 n (K4.ne_of_lt (by omega))).trans y1
  have yb:A8 bp j2=some (.c (cb l) s pr) := (f2 bp (K4.ne_of_lt (by omega))).trans ((f1 bp (K4.ne_of_lt hb)).trans hp)
  obtain ⟨h', n', q, d6', d7', i', d11', fr', e, k1, k2, k3, k4, k5, k6, k7, k8⟩ := he_run (m := m) (ex := ex) (d6 := Ay) (d7 := Ay) (d11 := Ay) (n := n.up.up) yb ho hN ha h1 h2 h3 h4 h5 hw hs1 hs2 hl y1' y2 (K4.ne_of_lt (by omega)) (K4.ne_of_lt (by omega)).symm (K4.ne_of_lt (by omega)).symm (by omega) (by omega) (by omega) (by omega)
  have z1:(me++32::(ta++32::verL)).length=me.length+ta.length+10 := by simp only [List.length_append,List.length_cons]; show _+(_+(8+1)+1)=_; omega
  have z2:(nm++58::v).length=nm.length+v.length+1 := by simp only [List.length_append,List.length_cons]; omega
  obtain ⟨T, hT⟩:∃ x, (me++32::(ta++32::verL)).length+(nm++58::v).length+6=x := ⟨_, rfl⟩
  rw [hT] at e ⊢
  have e9 := e (1000000000 - T)
  rw [show 1000000000 - T+T=999999999+1 by omega, Cg, ←Cu] at e9
  simp only [hst,Q0] at e9
  have ec:∀ κ:V->R, Ir 4 (.ptr n 0) h' κ=κ (.agg [sb me, sb ta, .sl q 0 1 1 false 2, .str 0 0]) := fun κ => (Iq 4 n 0 h' κ).trans (by rw [k1]; rfl)
  refine ⟨h', n', q, ?_, k2, by omega, k4, by omega, by omega, fun x hx => ?_, fun hf => k8 fun q hq => ?_⟩
  · rw [call2_at, show C5 ⟨.d0, .d3, .d13⟩ tab=some x61 from rfl, x61_L, x61L]
    simp (config := {maxSteps := 3000000}) (disch := omega) only [qa,g0,g1,g2,g3,g4,g5,g6,g7,g8,g9,BC,BF,C0,BR,BI,BK,BM,BY,BT,BU,w0,w1,w2,w3,w4,w5,w6,w7,w8,w9,BD,BB,BS,BP,BV,BQ,BH,BO,BL,BN,Mk,Nat.reduceAdd,Nat.reduceSub,Nat.reduceMul,Nat.reduceMod,Nat.reduceDiv,Q0,U,en3,j1e,j2e,e9,ec,Am,Av,AN,AP,AO,AQ]
  · rw [k7 x (by omega) (K4.ne_of_lt hx) (K4.ne_of_lt (by omega)), f2 x (K4.ne_of_lt (by omega)), f1 x (K4.ne_of_lt hx)]
  · rw [f2 q (K4.ne_of_lt (by omega)).symm, f1 q (K4.ne_of_lt (by omega)).symm]; exact hf q (by omega)
theorem get_ok {m:Nat} {h:Heap} {n q:K4} {nm w key:List UInt8} (hq:A8 q h=some (.c (.l [sb nm, sb w]) false none)) (hqn:q.toN<n.toN) (hl:nm.length<900000000) (hk:key.length<900000000) (hn:n.toN<57000) :
    ∃ h' n' r, Ar tab (m+2) ⟨.d0, .d4, .d15⟩ [.sl q 0 1 1 false 2, sb key] h n = .rv (if nm.map lowC=key.map lowC then .sl r 0 1 1 false 1 else .nil .sl) h' n'∧(nm.map lowC=key.map lowC->A8 r h'=some (.c (.l [sb w]) false none)∧n.toN≤r.toN∧r.toN<n'.toN)∧n.toN≤n'.toN∧n'.toN≤n.toN+5∧(∀ x:K4, x.toN<n.toN->A8 x h'=A8 x h)∧(Bc h n->Bc h' n') := by
  have u1 := K4.up_toN (p := n) (by omega)
  have u2 := K4.up_toN (p := n.up) (by omega)
  have u3 := K4.up_toN (p := n.up.up) (by omega)
  have u4 := K4.up_toN (p := n.up.up.up) (by omega)
  have u5 := K4.up_toN (p := n.up.up.up.up) (by omega)
  obtain ⟨jz, jze⟩:∃ x, Af n h (some (.c (.l [.str 0 0, .str 0 0]) false none))=x := ⟨_, rfl⟩
  have yz:A8 n jz=some (.c (.l [.str 0 0, .str 0 0]) false none) := by rw [←jze]; exact A6 _ _ _
  obtain ⟨j1, j1e⟩:∃ x, Af n jz (some (.c (.l [sb nm, sb w]) false none))=x := ⟨_, rfl⟩
  have f1:∀ q:K4, q≠n->A8 q j1=A8 q h := fun q hq => by rw [←j1e, A7 _ _ hq.symm, ←jze]; exact A7 _ _ hq.symm
  have y1:A8 n j1=some (.c (.l [sb nm, sb w]) false none) := by rw [←j1e]; exact A6 _ _ _
  have est:∀ κ:Heap->R, Bn 2 (.ptr n 0) (.agg [sb nm, sb w]) jz κ=κ j1 := fun κ => (Re (m := 2) (b := [sb nm, sb w]) yz rfl (by show 0+2≤2; omega) κ).trans (by rw [←j1e]; rfl)
  obtain ⟨j2, e2, a1, a2⟩ := lower_ok (m := m) (l := nm) (h := j1) (n := n.up) hl (by omega)
  obtain ⟨j3, e3, b1, b2⟩ := lower_ok (m := m) (l := key) (h := j2) (n := n.up.up) hk (by omega)
  have y3:A8 n j3=some (.c (.l [sb nm, sb w]) false none) := (b1 n (by omega)).trans ((a1 n (by omega)).trans y1)
  have e4 := fun κ => Qf (nm.map lowC) (key.map lowC) κ
  have eq0:∀ κ:V->R, Lo (some (.c (.l [sb nm, sb w]) false none)) 2 0 κ=κ (.agg [sb nm, sb w]) := fun κ => rfl
  have el0:∀ κ:V->R, Lj (some (.c (.l [sb nm, sb w]) false none)) 0 κ=κ (sb nm) := fun κ => rfl
  have el1:∀ κ:V->R, Lj (some (.c (.l [sb nm, sb w]) false none)) 1 κ=κ (sb w) := fun κ => rfl
  have ep:∀ κ:List V->R, Ag 0 (sb w) [.str 0 0] κ=κ [sb w] := fun κ => rfl
  have er:∀ κ:Cs->R, Ry (some (.c (.l [sb w]) false none)) 0 1 κ=κ (.l [sb w]) := fun κ => rfl
  rw [call2_at, show C5 ⟨.d0, .d4, .d15⟩ tab=some x79 from rfl, x79_L, x79L]
  by_cases hc:nm.map lowC=key.map lowC
  · have hd := decide_eq_true hc
    obtain ⟨j4, j4e⟩:∃ x, Af n.up.up.up j3 (some (.c (.l [sb w]) false none))=x := ⟨_, rfl⟩
    have f4:∀ q:K4, q≠n.up.up.up->A8 q j4=A8 q j3 := fun q hq => by rw [←j4e]; exact A7 _ _ hq.symm
    have y4:A8 n.up.up.up j4=some (.c (.l [sb w]) false none) := by rw [←j4e]; exact A6 _ _ _
    obtain ⟨j5, j5e⟩:∃ x, Af n.up.up.up.up j4 (some (.c (.l [sb w]) false none))=x := ⟨_, rfl⟩
    have f5:∀ q:K4, q≠n.up.up.up.up->A8 q j5=A8 q j4 := fun q hq => by rw [←j5e]; exact A7 _ _ hq.symm
    have y5:A8 n.up.up.up.up j5=some (.c (.l [sb w]) false none) := by rw [←j5e]; exact A6 _ _ _
    refine ⟨j5, n.up.up.up.up.up, n.up.up.up.up, ?_, fun _ => ⟨y5, by omega, by omega⟩, by omega, by omega, fun x hx => ?_, fun hf q hq => ?_⟩
    · rw [if_pos hc]
      simp (config := {maxSteps := 3000000}) (disch := omega) only [qa,g0,g1,g2,g3,g4,g5,g6,g7,g8,g9,BC,BF,C0,BR,BI,BK,BM,BY,BT,BU,w0,w1,w2,w3,w4,w5,w6,w7,w8,w9,BD,BB,BS,BP,BV,BQ,BH,BO,BL,BN,Mk,Nat.reduceAdd,Nat.reduceSub,Nat.reduceMul,Nat.reduceMod,Nat.reduceDiv,Q0,U,en1,Am,Av,AN,AP,AO,AQ]
      rw [Cu]
      unfold geL
      simp (config := {maxSteps := 3000000}) (disch := omega) only [qa,g0,g1,g2,g3,g4,g5,g6,g7,g8,g9,BC,BF,C0,BR,BI,BK,BM,BY,BT,BU,w0,w1,w2,w3,w4,w5,w6,w7,w8,w9,BD,BB,BS,BP,BV,BQ,BH,BO,BL,BN,Mk,Nat.reduceAdd,Nat.reduceSub,Nat.reduceMul,Nat.reduceMod,Nat.reduceDiv,Q0,U,hq,eq0,jze,est,y1,el0,e2,e3,e4,hd,y3,el1,ep,j4e,y4,er,j5e,Am,Av,AN,AP,AO,AQ]
      rw [show (999999999:Nat)=999999998+1 from rfl, Cg]
      simp (config := {maxSteps := 3000000}) (disch := omega) only [qa,g0,g1,g2,g3,g4,g5,g6,g7,g8,g9,BC,BF,C0,BR,BI,BK,BM,BY,BT,BU,w0,w1,w2,w3,w4,w5,w6,w7,w8,w9,BD,BB,BS,BP,BV,BQ,BH,BO,BL,BN,Mk,Nat.reduceAdd,Nat.reduceSub,Nat.reduceMul,Nat.reduceMod,Nat.reduceDiv,Q0,U,Am,Av,AN,AP,AO,AQ]
    · rw [f5 x (K4.ne_of_lt (by omega)), f4 x (K4.ne_of_lt (by omega)), b1 x (by omega), a1 x (by omega), f1 x (K4.ne_of_lt hx)]
    · rw [f5 q (K4.ne_of_lt (by omega)).symm, f4 q (K4.ne_of_lt (by omega)).symm]
      exact b2 (a2 fun r hr => (f1 r (K4.ne_of_lt (by omega)).symm).trans (hf r (by omega))) q (by omega)
  · have hd := decide_eq_false hc
    refine ⟨j3, n.up.up.up, n, ?_, fun e => absurd e hc, by omega, by omega, fun x hx => ?_, fun hf q hq => ?_⟩
    · rw [if_neg hc]
      simp (config := {maxSteps := 3000000}) (disch := omega) only [qa,g0,g1,g2,g3,g4,g5,g6,g7,g8,g9,BC,BF,C0,BR,BI,BK,BM,BY,BT,BU,w0,w1,w2,w3,w4,w5,w6,w7,w8,w9,BD,BB,BS,BP,BV,BQ,BH,BO,BL,BN,Mk,Nat.reduceAdd,Nat.reduceSub,Nat.reduceMul,Nat.reduceMod,Nat.reduceDiv,Q0,U,en1,Am,Av,AN,AP,AO,AQ]
      rw [Cu]
      unfold geL
      simp (config := {maxSteps := 3000000}) (disch := omega) only [qa,g0,g1,g2,g3,g4,g5,g6,g7,g8,g9,BC,BF,C0,BR,BI,BK,BM,BY,BT,BU,w0,w1,w2,w3,w4,w5,w6,w7,w8,w9,BD,BB,BS,BP,BV,BQ,BH,BO,BL,BN,Mk,Nat.reduceAdd,Nat.reduceSub,Nat.reduceMul,Nat.reduceMod,Nat.reduceDiv,Q0,U,hq,eq0,jze,est,y1,el0,e2,e3,e4,hd,Am,Av,AN,AP,AO,AQ]
      rw [show (999999999:Nat)=999999998+1 from rfl, Cg]
      simp (config := {maxSteps := 3000000}) (disch := omega) only [qa,g0,g1,g2,g3,g4,g5,g6,g7,g8,g9,BC,BF,C0,BR,BI,BK,BM,BY,BT,BU,w0,w1,w2,w3,w4,w5,w6,w7,w8,w9,BD,BB,BS,BP,BV,BQ,BH,BO,BL,BN,Mk,Nat.reduceAdd,Nat.reduceSub,Nat.reduceMul,Nat.reduceMod,Nat.reduceDiv,Q0,U,Am,Av,AN,AP,AO,AQ]
    · rw [b1 x (by omega), a1 x (by omega), f1 x (K4.ne_of_lt hx)]
    · exact b2 (a2 fun r hr => (f1 r (K4.ne_of_lt (by omega)).symm).trans (hf r (by omega))) q hq
noncomputable def whL (c:DZ):S->Heap->K4->R := fun t h n=>g9 t fun zt=>g8 t fun zu=>AR zt zu fun zv=>AY zv (Aj 2 (g7 t fun zw=>Bl 1 zw zt fun zx=>Az zx h fun zy=>Ai (c ⟨.d0,.d5,.d1⟩ [zy] h n) fun zz h n=>AU 0 zz fun z10=>AU 1 zz fun z11=>C6 z11 fun z12=>Ba false z12 h n (fun k=>k zt h n) fun z13 h n=>Ba false z12 h n (fun k=>C3 z13 (iI 0) fun v=>k v h n) fun z14 h n=>Ba false z12 h n (fun k=>k z14 h n) fun z15 h n=>gK z15 z10 h n fun z16 h n=>g5 t fun z17=>gK z15 z17 h n fun z18 h n=>gO z15 h n (fun k=>B4 z16 z18 k) fun z19 h n=>Ba false z12 h n (fun k=>AA z15 z19 (.bool false) fun v=>k v h n) fun z1a h n=>AA z12 (.bool true) z1a fun z1b=>AY z1b (g1 t fun z1c=>Bn 2 z1c (.agg [(.bool false),(iI 0)]) h fun h=>w2 t (iI 5) fun t=>rT t h n)<|w5 t z10 fun t=>nR t h n) fun t h n=>g9 t fun z1d=>Ap z1d (iI 1) fun z1e=>w9 t z1e fun t=>nR t h n)<|.ok (.exit 1) t h n
noncomputable def x62L:Ent := .code en3 (fun c t h n=>Dc (.l [(.bool false),(iI 0)]) h n fun z1 h n=>g0 t fun z2=>Ai (c ⟨.d0,.d4,.d15⟩ [z2,(.str 17 35195846100629207368392487591500390167124)] h n) fun z3 h n=>Ai (c ⟨.d0,.d4,.d15⟩ [z2,(.str 14 2118593076047644386086300223958851)] h n) fun z4 h n=>Aj 0 (B3 z3 fun z5=>C3 z5 (iI 1) fun z6=>Br (AY z6 (w1 t z1 fun t=>w2 t (iI 0) fun t=>w3 t z3 fun t=>w4 t z4 fun t=>w6 t z6 fun t=>nR t h n) (B3 z3 fun z7=>AW z7 (iI 1) fun z8=>gK z8 z4 h n fun z9 h n=>gO z8 h n (fun k=>B3 z9 k) fun za h n=>gO z8 h n (fun k=>C3 za (iI 0) k) fun zb h n=>gK z8 zb h n fun zc h n=>Ba false zc h n (fun k=>k z3 h n) fun zd h n=>Ba false zc h n (fun k=>Bl 1 zd (iI 0) fun v=>k v h n) fun ze h n=>Ba false zc h n (fun k=>Az ze h fun v=>k v h n) fun zf h n=>Ba false zc h n (fun k=>Ai (c ⟨.d0,.d5,.d0⟩ [zf] h n) k) fun zg h n=>Ba false zc h n (fun k=>B4 zg (.str 7 28259009760159843) fun v=>k v h n) fun zh h n=>gO z8 h n (fun k=>AA zc (.bool true) zh k) fun zi h n=>AA z8 zi (.bool false) fun zj=>w1 t z1 fun t=>w2 t (iI 0) fun t=>w3 t z3 fun t=>w4 t z4 fun t=>w6 t zj fun t=>nR t h n)) fun t h n=>g6 t fun zk=>AY zk (g1 t fun zl=>Bn 2 zl (.agg [(.bool false),(iI 0)]) h fun h=>w2 t (iI 5) fun t=>rT t h n)<|g3 t fun zm=>B3 zm fun zn=>AW zn (iI 1) fun zo=>AY zo (Ag 0 (.bool true) [(.bool false),(iI 0)] fun zp=>g1 t fun zq=>Bn 2 zq (.agg zp) h fun h=>w2 t (iI 0) fun t=>rT t h n)<|nR t h n) fun t h n=>g4 t fun zr=>B3 zr fun zs=>Aj 1 (w5 t (iI 0) fun t=>w7 t zr fun t=>w8 t zs fun t=>w9 t (iI 0) fun t=>Bd (whL c) t h n) fun t h n=>g5 t fun z1f=>C3 z1f (iI 4000) fun z1g=>AY z1g (g1 t fun z1h=>Bn 2 z1h (.agg [(.bool false),(iI 0)]) h fun h=>w2 t (iI 9) fun t=>rT t h n)<|Ag 1 z1f [(.bool false),(iI 0)] fun z1i=>g1 t fun z1j=>Bn 2 z1j (.agg z1i) h fun h=>w2 t (iI 0) fun t=>rT t h n) (fun t h n=>g1 t fun a0=>Ir 2 a0 h fun b0=>g2 t fun a1=>.rv (.tup [b0,a1]) h n)
theorem x62_L:x62=x62L := rfl
def teL:List UInt8 := [84, 114, 97, 110, 115, 102, 101, 114, 45, 69, 110, 99, 111, 100, 105, 110, 103]
def clL:List UInt8 := [67, 111, 110, 116, 101, 110, 116, 45, 76, 101, 110, 103, 116, 104]
def chL:List UInt8 := [99, 104, 117, 110, 107, 101, 100]
theorem teL_e:sb teL = .str 17 35195846100629207368392487591500390167124 := by kernel_rfl
theorem clL_e:sb clL = .str 14 2118593076047644386086300223958851 := by kernel_rfl
theorem chL_e:sb chL = .str 7 28259009760159843 := by kernel_rfl
theorem te_cl:¬ teL.map lowC=clL.map lowC := by decide
theorem ch_low:chL.map lowC=chL := by decide
theorem which_ch {m:Nat} {h:Heap} {n q:K4} (hq:A8 q h=some (.c (.l [sb teL, sb chL]) false none)) (hqn:q.toN<n.toN) (hn:n.toN<56000) :
    ∃ h' n', Ar tab (m+6) ⟨.d0, .d3, .d14⟩ [.sl q 0 1 1 false 2] h n = .rv (.tup [.agg [.bool true, .int .i64 0], .int .i64 0]) h' n'∧n.toN≤n'.toN∧n'.toN≤n.toN+12∧(∀ x:K4, x.toN<n.toN->A8 x h'=A8 x h)∧(Bc h n->Bc h' n') := by
  have u1 := K4.up_toN (p := n) (by omega)
  obtain ⟨j1, j1e⟩:∃ x, Af n h (some (.c (.l [.bool false, .int .i64 0]) false none))=x := ⟨_, rfl⟩
  have f1:∀ q:K4, q≠n->A8 q j1=A8 q h := fun q hq => by rw [←j1e]; exact A7 _ _ hq.symm
  have y1:A8 n j1=some (.c (.l [.bool false, .int .i64 0]) false none) := by rw [←j1e]; exact A6 _ _ _
  have q1:A8 q j1=some (.c (.l [sb teL, sb chL]) false none) := (f1 q (K4.ne_of_lt hqn)).trans hq
  obtain ⟨j2, n2, r2, e2, a1, a2, a3, a4, a5⟩ := get_ok (m := m+3) (n := n.up) (key := teL) q1 (by omega) (by decide) (by decide) (by omega)
  rw [if_pos rfl, teL_e] at e2
  obtain ⟨a6, a7, a8⟩ := a1 rfl
  have q2:A8 q j2=some (.c (.l [sb teL, sb chL]) false none) := (a4 q (by omega)).trans q1
  obtain ⟨j3, n3, r3, e3, b1, b2, b3, b4, b5⟩ := get_ok (m := m+3) (n := n2) (key := clL) q2 (by omega) (by decide) (by decide) (by omega)
  rw [if_neg te_cl, clL_e] at e3
  have r3':A8 r2 j3=some (.c (.l [sb chL]) false none) := (b4 r2 a8).trans a6
  obtain ⟨j4, e4, c1, c2⟩ := lower_ok (m := m+4) (l := chL) (h := j3) (n := n3) (by decide) (by omega)
  have u4 := K4.up_toN (p := n3) (by omega)
  rw [ch_low, chL_e] at e4
  have y4:A8 n j4=some (.c (.l [.bool false, .int .i64 0]) false none) := (c1 n (by omega)).trans ((b4 n (by omega)).trans ((a4 n (by omega)).trans y1))
  have el:∀ κ:V->R, Lj (some (.c (.l [sb chL]) false none)) 0 κ=κ (.str 7 28259009760159843) := fun κ => by rw [chL_e]; rfl
  have e5:∀ κ:V->R, B4 (.str 7 28259009760159843) (.str 7 28259009760159843) κ=κ (.bool false) := fun κ => id rfl
  have est:∀ κ:Heap->R, Bn 2 (.ptr n 0) (.agg [.bool true, .int .i64 0]) j4 κ=κ (Af n j4 (some (.c (.l [.bool true, .int .i64 0]) false none))) := fun κ => (Re (m := 2) (b := [.bool true, .int .i64 0]) y4 rfl (by show 0+2≤2; omega) κ).trans rfl
  have ec:∀ κ:V->R, Ir 2 (.ptr n 0) (Af n j4 (some (.c (.l [.bool true, .int .i64 0]) false none))) κ=κ (.agg [.bool true, .int .i64 0]) := fun κ => (Iq 2 n 0 _ κ).trans (by rw [A6]; rfl)
  refine ⟨Af n j4 (some (.c (.l [.bool true, .int .i64 0]) false none)), n3.up, ?_, by omega, by omega, fun x hx => ?_, fun hf p hp => ?_⟩
  · rw [call2_at, show C5 ⟨.d0, .d3, .d14⟩ tab=some x62 from rfl, x62_L, x62L]
    simp (config := {maxSteps := 3000000}) (disch := omega) only [qa,g0,g1,g2,g3,g4,g5,g6,g7,g8,g9,BC,BF,C0,BR,BI,BK,BM,BY,BT,BU,w0,w1,w2,w3,w4,w5,w6,w7,w8,w9,BD,BB,BS,BP,BV,BQ,BH,BO,BL,BN,Mk,Nat.reduceAdd,Nat.reduceSub,Nat.reduceMul,Nat.reduceMod,Nat.reduceDiv,Q0,U,en3,j1e,e2,e3,r3',el,e4,e5,est,ec,Am,Av,AN,AP,AO,AQ]
  · rw [A7 _ _ (K4.ne_of_lt hx).symm, c1 x (by omega), b4 x (by omega), a4 x (by omega), f1 x (K4.ne_of_lt hx)]
  · rw [A7 _ _ (K4.ne_of_lt (by omega))]
    exact c2 (b5 (a5 fun r hr => (f1 r (K4.ne_of_lt (by omega)).symm).trans (hf r (by omega)))) p hp
theorem which_len {m k:Nat} {h:Heap} {n q:K4} {w:List UInt8} (hq:A8 q h=some (.c (.l [sb clL, sb w]) false none)) (hqn:q.toN<n.toN) (hk:k≤4000) (hnum:∀ (h:Heap) (n:K4), Ar tab (m+5) ⟨.d0, .d5, .d1⟩ [sb w] h n = .rv (.tup [.int .i64 k, .bool true]) h n) (hn:n.toN<56000) :
    ∃ h' n', Ar tab (m+6) ⟨.d0, .d3, .d14⟩ [.sl q 0 1 1 false 2] h n = .rv (.tup [.agg [.bool false, .int .i64 k], .int .i64 0]) h' n'∧n.toN≤n'.toN∧n'.toN≤n.toN+12∧(∀ x:K4, x.toN<n.toN->A8 x h'=A8 x h)∧(Bc h n->Bc h' n') := by
  have u1 := K4.up_toN (p := n) (by omega)
  obtain ⟨j1, j1e⟩:∃ x, Af n h (some (.c (.l [.bool false, .int .i64 0]) false none))=x := ⟨_, rfl⟩
  have f1:∀ q:K4, q≠n->A8 q j1=A8 q h := fun q hq => by rw [←j1e]; exact A7 _ _ hq.symm
  have y1:A8 n j1=some (.c (.l [.bool false, .int .i64 0]) false none) := by rw [←j1e]; exact A6 _ _ _
  have q1:A8 q j1=some (.c (.l [sb clL, sb w]) false none) := (f1 q (K4.ne_of_lt hqn)).trans hq
  obtain ⟨j2, n2, r2, e2, a1, a2, a3, a4, a5⟩ := get_ok (m := m+3) (n := n.up) (key := teL) q1 (by omega) (by decide) (by decide) (by omega)
  rw [if_neg (Ne.symm te_cl), teL_e] at e2
  have q2:A8 q j2=some (.c (.l [sb clL, sb w]) false none) := (a4 q (by omega)).trans q1
  obtain ⟨j3, n3, r3, e3, b1, b2, b3, b4, b5⟩ := get_ok (m := m+3) (n := n2) (key := clL) q2 (by omega) (by decide) (by decide) (by omega)
  rw [if_pos rfl, clL_e] at e3
  obtain ⟨b6, b7, b8⟩ := b1 rfl
  have y4:A8 n j3=some (.c (.l [.bool false, .int .i64 0]) false none) := ((b4 n (by omega)).trans ((a4 n (by omega)).trans y1))
  have el:∀ κ:V->R, Lj (some (.c (.l [sb w]) false none)) 0 κ=κ (sb w) := fun κ => rfl
  have e4 := hnum j3 n3
  have ep:∀ κ:List V->R, Ag 1 (.int .i64 k) [.bool false, .int .i64 0] κ=κ [.bool false, .int .i64 k] := fun κ => rfl
  have est:∀ κ:Heap->R, Bn 2 (.ptr n 0) (.agg [.bool false, .int .i64 k]) j3 κ=κ (Af n j3 (some (.c (.l [.bool false, .int .i64 k]) false none))) := fun κ => (Re (m := 2) (b := [.bool false, .int .i64 k]) y4 rfl (by show 0+2≤2; omega) κ).trans rfl
  have ec:∀ κ:V->R, Ir 2 (.ptr n 0) (Af n j3 (some (.c (.l [.bool false, .int .i64 k]) false none))) κ=κ (.agg [.bool false, .int .i64 k]) := fun κ => (Iq 2 n 0 _ κ).trans (by rw [A6]; rfl)
  refine ⟨Af n j3 (some (.c (.l [.bool false, .int .i64 k]) false none)), n3, ?_, by omega, by omega, fun x hx => ?_, fun hf p hp => ?_⟩
  · rw [call2_at, show C5 ⟨.d0, .d3, .d14⟩ tab=some x62 from rfl, x62_L, x62L]
    simp (config := {maxSteps := 3000000}) (disch := omega) only [qa,g0,g1,g2,g3,g4,g5,g6,g7,g8,g9,BC,BF,C0,BR,BI,BK,BM,BY,BT,BU,w0,w1,w2,w3,w4,w5,w6,w7,w8,w9,BD,BB,BS,BP,BV,BQ,BH,BO,BL,BN,Mk,Nat.reduceAdd,Nat.reduceSub,Nat.reduceMul,Nat.reduceMod,Nat.reduceDiv,Q0,U,en3,j1e,e2,e3,Am,Av,AN,AP,AO,AQ]
    rw [Cu]
    unfold whL
    simp (config := {maxSteps := 3000000}) (disch := omega) only [qa,g0,g1,g2,g3,g4,g5,g6,g7,g8,g9,BC,BF,C0,BR,BI,BK,BM,BY,BT,BU,w0,w1,w2,w3,w4,w5,w6,w7,w8,w9,BD,BB,BS,BP,BV,BQ,BH,BO,BL,BN,Mk,Nat.reduceAdd,Nat.reduceSub,Nat.reduceMul,Nat.reduceMod,Nat.reduceDiv,Q0,U,b6,el,e4,Am,Av,AN,AP,AO,AQ]
    rw [show (999999999:Nat)=999999998+1 from rfl, Cg]
    simp (config := {maxSteps := 3000000}) (disch := omega) only [qa,g0,g1,g2,g3,g4,g5,g6,g7,g8,g9,BC,BF,C0,BR,BI,BK,BM,BY,BT,BU,w0,w1,w2,w3,w4,w5,w6,w7,w8,w9,BD,BB,BS,BP,BV,BQ,BH,BO,BL,BN,Mk,Nat.reduceAdd,Nat.reduceSub,Nat.reduceMul,Nat.reduceMod,Nat.reduceDiv,Q0,U,ep,est,ec,Am,Av,AN,AP,AO,AQ]
  · rw [A7 _ _ (K4.ne_of_lt hx).symm, b4 x (by omega), a4 x (by omega), f1 x (K4.ne_of_lt hx)]
  · rw [A7 _ _ (K4.ne_of_lt (by omega))]
    exact b5 (a5 fun r hr => (f1 r (K4.ne_of_lt (by omega)).symm).trans (hf r (by omega))) p hp
noncomputable def waL (c:DZ):S->Heap->K4->R := fun t h n=>g2 t fun z1=>g1 t fun z2=>B0 z2 fun z3=>AR z1 z3 fun z4=>g0 t fun z5=>gK z4 z5 h n fun z6 h n=>gO z4 h n (fun k=>Ah z6 k) fun z7 h n=>gO z4 h n (fun k=>Al 2 z7 k) fun z8 h n=>gO z4 h n (fun k=>Az z8 h k) fun z9 h n=>gO z4 h n (fun k=>AW z9 (iI 0) k) fun za h n=>AA z4 za (.bool false) fun zb=>AY zb (Aj 1 (Aj 2 (mV z5 fun zc=>AB (Ah zc Ax) fun zd=>AB (Al 1 zd Ax) fun ze=>AB (Az ze h Ax) fun zf=>mV z5 fun zg=>AB (Ah zg Ax) fun zh=>AB (Al 0 zh Ax) fun zi=>AB (Az zi h Ax) fun zj=>AB (B3 zj Ax) fun zk=>AB (DU zf zk Ax) fun zl=>mV zl fun zm=>Br (AY zm (Ah z5 fun zn=>Al 2 zn fun zo=>Bb zo (iI 11) h fun h=>nR t h n) (mV z5 fun zp=>AB (Ah zp Ax) fun zq=>AB (Al 0 zq Ax) fun zr=>AB (Az zr h Ax) fun zs=>mV z5 fun zt=>AB (Ah zt Ax) fun zu=>AB (Al 1 zu Ax) fun zv=>AB (Az zv h Ax) fun zw=>AB (Bl 1 zs zw Ax) fun zx=>AB (Az zx h Ax) fun zy=>mV z2 fun zz=>mV z1 fun z10=>AB (AZ zz z10 Ax) fun z11=>AB (B4 zy z11 Ax) fun z12=>mV z12 fun z13=>Br (AY z13 (Ah z5 fun z14=>Al 2 z14 fun z15=>Bb z15 (iI 5) h fun h=>nR t h n) (Ah z5 fun z16=>Al 1 z16 fun z17=>Az z17 h fun z18=>Ap z18 (iI 1) fun z19=>Ah z5 fun z1a=>Al 1 z1a fun z1b=>Bb z1b z19 h fun h=>nR t h n)) fun t h n=>nR t h n)) fun t h n=>nR t h n) fun t h n=>nR t h n) fun t h n=>g2 t fun z1c=>Ap z1c (iI 1) fun z1d=>w2 t z1d fun t=>nR t h n)<|.ok (.exit 0) t h n
noncomputable def x100L:Ent := .code en1 (fun c t h n=>Aj 0 (w2 t (iI 0) fun t=>Bd (waL c) t h n) fun t h n=>nR t h n) (fun t h n=>.rv (.tup []) h n)
theorem x100_L:x100=x100L := rfl
noncomputable def leL (c:DZ):S->Heap->K4->R := fun t h n=>g0 t fun z5=>mV z5 fun z6=>AB (Ah z6 Ax) fun z7=>AB (Al 1 z7 Ax) fun z8=>AB (Az z8 h Ax) fun z9=>mV z5 fun za=>AB (Ah za Ax) fun zb=>AB (Al 0 zb Ax) fun zc=>AB (Az zc h Ax) fun zd=>AB (B3 zd Ax) fun ze=>AB (AR z9 ze Ax) fun zf=>mV zf fun zg=>gA zg (Ax z5) fun zh=>gA zg (Ah zh Ax) fun zi=>gA zg (Al 1 zi Ax) fun zj=>gA zg (Az zj h Ax) fun zk=>g2 t fun zl=>gA zg (Ax zl) fun zm=>gA zg (C7 zk zm Ax) fun zn=>gA zg (EA zn (iI 8) Ax) fun zo=>AB (AA zg zo (.bool false) Ax) fun zp=>AY zp (Aj 1 (mV z5 fun zq=>AB (Ah zq Ax) fun zr=>AB (Al 0 zr Ax) fun zs=>AB (Az zs h Ax) fun zt=>mV z5 fun zu=>AB (Ah zu Ax) fun zv=>AB (Al 1 zv Ax) fun zw=>AB (Az zw h Ax) fun zx=>mV z5 fun zy=>AB (Ah zy Ax) fun zz=>AB (Al 1 zz Ax) fun z10=>AB (Az z10 h Ax) fun z11=>AB (Ap z11 (iI 1) Ax) fun z12=>AB (Cw 1 zt (some zx) (some z12) Ax) fun z13=>AB (C4 z13 h Ax) fun z14=>HN (Ai (c ⟨.d0,.d7,.d2⟩ [z14] h n) .rv) fun z15 h n=>mV z15 fun z16=>AB (AU 0 z16 Ax) fun z17=>AB (AU 1 z16 Ax) fun z18=>mV z17 fun z19=>mV z18 fun z1a=>C6 z1a fun z1b=>AY z1b (.ok (.exit 0) t h n)<|Ah z5 fun z1c=>Al 1 z1c fun z1d=>Az z1d h fun z1e=>Ap z1e (iI 1) fun z1f=>Ah z5 fun z1g=>Al 1 z1g fun z1h=>Bb z1h z1f h fun h=>nR t h n) fun t h n=>nR t h n)<|.ok (.exit 0) t h n
noncomputable def x99L:Ent := .code en3 (fun c t h n=>g0 t fun z1=>Ah z1 fun z2=>Al 1 z2 fun z3=>Az z3 h fun z4=>Aj 0 (w1 t (iI 0) fun t=>w2 t z4 fun t=>Bd (leL c) t h n) fun t h n=>g0 t fun z1i=>Ah z1i fun z1j=>Al 1 z1j fun z1k=>Az z1k h fun z1l=>g2 t fun z1m=>C7 z1l z1m fun z1n=>Aj 2 (C3 z1n (iI 8) fun z1o=>Br (AY z1o (w3 t z1n fun t=>w4 t z1o fun t=>nR t h n) (mV z1n fun z1p=>AB (AW z1p (iI 0) Ax) fun z1q=>mV z1q fun z1r=>gA z1r (Ax z1i) fun z1s=>gA z1r (Ah z1s Ax) fun z1t=>gA z1r (Al 1 z1t Ax) fun z1u=>gA z1r (Az z1u h Ax) fun z1v=>gA z1r (Ax z1i) fun z1w=>gA z1r (Ah z1w Ax) fun z1x=>gA z1r (Al 0 z1x Ax) fun z1y=>gA z1r (Az z1y h Ax) fun z1z=>gA z1r (B3 z1z Ax) fun z20=>gA z1r (AR z1v z20 Ax) fun z21=>AB (AA z1r z21 (.bool false) Ax) fun z22=>mV z22 fun z23=>w3 t z1n fun t=>w4 t z23 fun t=>nR t h n)) fun t h n=>g4 t fun z24=>Br (AY z24 (g0 t fun z25=>Ah z25 fun z26=>Al 2 z26 fun z27=>Bb z27 (iI 5) h fun h=>nR t h n) (g3 t fun z28=>AW z28 (iI 0) fun z29=>Br (AY z29 (g0 t fun z2a=>Ah z2a fun z2b=>Al 2 z2b fun z2c=>Bb z2c (iI 11) h fun h=>nR t h n) (nR t h n)) fun t h n=>nR t h n)) fun t h n=>nR t h n) fun t h n=>g0 t fun z2d=>Ah z2d fun z2e=>Al 2 z2e fun z2f=>Az z2f h fun z2g=>B4 z2g (iI 0) fun z2h=>AY z2h (w1 t (iI 0) fun t=>rT t h n)<|mV z2d fun z2i=>AB (Ah z2i Ax) fun z2j=>AB (Al 0 z2j Ax) fun z2k=>AB (Az z2k h Ax) fun z2l=>g2 t fun z2m=>mV z2m fun z2n=>mV z2d fun z2o=>AB (Ah z2o Ax) fun z2p=>AB (Al 1 z2p Ax) fun z2q=>AB (Az z2q h Ax) fun z2r=>AB (Cw 1 z2l (some z2n) (some z2r) Ax) fun z2s=>AB (C4 z2s h Ax) fun z2t=>HN (Ai (c ⟨.d0,.d7,.d2⟩ [z2t] h n) .rv) fun z2u h n=>mV z2u fun z2v=>AB (AU 0 z2v Ax) fun z2w=>AB (AU 1 z2v Ax) fun z2x=>mV z2w fun z2y=>mV z2x fun z2z=>Ai (c ⟨.d0,.d6,.d4⟩ [z2d,(.str 2 2573)] h n) fun z30 h n=>w1 t z2y fun t=>rT t h n) (fun t h n=>g1 t fun a0=>.rv a0 h n)
theorem x99_L:x99=x99L := rfl
theorem st3_1 (a b c v:V) (h:Heap) (p:K4) (κ:Heap->R):NM (some (.c (.l [a, b, c]) false none)) h p 1 v κ=κ (Af p h (some (.c (.l [a, v, c]) false none))) := id rfl
/-- A reader of chunks. -/
def rdC (bp:K4) (o N:Nat) (ex:Bool) (at':Nat):Option Ob := some (.c (.l [.sl bp o N N ex 1, .int .i64 at', .int .i64 0]) false none)
theorem want_ok {m:Nat} {rp bp:K4} {o N at':Nat} {ex:Bool} {h:Heap} {n:K4} {l tl:List UInt8} {s:Bool} {pr:Option K4} (hr:A8 rp h=rdC bp o N ex at') (hp:A8 bp h=some (.c (cb l) s pr)) (hne:rp≠bp) (ho:o+N=l.length) (hN:N<900000000) (ha:At l (o+at') (13::10::tl)) :
    ∃ h', Ar tab (m+1) ⟨.d0, .d6, .d4⟩ [.ptr rp 0, .str 2 2573] h n = .rv (.tup []) h' n∧A8 rp h'=rdC bp o N ex (at'+2)∧(∀ q:K4, q≠rp->A8 q h'=A8 q h) := by
  obtain ⟨a1, a2, a3⟩ := At.head ha
  obtain ⟨b1, b2, b3⟩ := At.head a3
  rw [Nat.add_assoc] at b1 b2
  unfold rdC at hr
  obtain ⟨j1, j1e⟩:∃ x, Af rp h (some (.c (.l [.sl bp o N N ex 1, .int .i64 (at'+1), .int .i64 0]) false none))=x := ⟨_, rfl⟩
  have y1:A8 rp j1=some (.c (.l [.sl bp o N N ex 1, .int .i64 (at'+1), .int .i64 0]) false none) := by rw [←j1e]; exact A6 _ _ _
  have hp1:A8 bp j1=some (.c (cb l) s pr) := by rw [←j1e, A7 _ _ hne]; exact hp
  obtain ⟨j2, j2e⟩:∃ x, Af rp j1 (some (.c (.l [.sl bp o N N ex 1, .int .i64 (at'+1+1), .int .i64 0]) false none))=x := ⟨_, rfl⟩
  have y2:A8 rp j2=some (.c (.l [.sl bp o N N ex 1, .int .i64 (at'+1+1), .int .i64 0]) false none) := by rw [←j2e]; exact A6 _ _ _
  have e1 := fun κ => HV hp a2 κ
  have e2 := fun κ => HV hp1 b2 κ
  rw [show (13:UInt8).toNat=13 from rfl] at e1
  rw [show (10:UInt8).toNat=10 from rfl] at e2
  have i0:∀ κ:V->R, AZ (.str 2 2573) (.int .i64 0) κ=κ (.int .u8 13) := fun κ => rfl
  have i1:∀ κ:V->R, AZ (.str 2 2573) (.int .i64 1) κ=κ (.int .u8 10) := fun κ => rfl
  have ln:∀ κ:V->R, B0 (.str 2 2573) κ=κ (.int .i64 2) := fun κ => rfl
  refine ⟨j2, ?_, y2, fun q hq => by rw [←j2e, A7 _ _ (Ne.symm hq), ←j1e, A7 _ _ (Ne.symm hq)]⟩
  rw [call2_at, show C5 ⟨.d0, .d6, .d4⟩ tab=some x100 from rfl, x100_L, x100L]
  simp (config := {maxSteps := 3000000}) (disch := omega) only [qa,g0,g1,g2,g3,g4,g5,g6,g7,g8,g9,BC,BF,C0,BR,BI,BK,BM,BY,BT,BU,w0,w1,w2,w3,w4,w5,w6,w7,w8,w9,BD,BB,BS,BP,BV,BQ,BH,BO,BL,BN,Mk,Nat.reduceAdd,Nat.reduceSub,Nat.reduceMul,Nat.reduceMod,Nat.reduceDiv,Q0,U,en1,Am,Av,AN,AP,AO,AQ]
  rw [Cu]
  unfold waL
  simp (config := {maxSteps := 3000000}) (disch := omega) only [qa,g0,g1,g2,g3,g4,g5,g6,g7,g8,g9,BC,BF,C0,BR,BI,BK,BM,BY,BT,BU,w0,w1,w2,w3,w4,w5,w6,w7,w8,w9,BD,BB,BS,BP,BV,BQ,BH,BO,BL,BN,Mk,Nat.reduceAdd,Nat.reduceSub,Nat.reduceMul,Nat.reduceMod,Nat.reduceDiv,Q0,U,ln,hr,e1,i0,st3_1,j1e,Nat.add_zero,Am,Av,AN,AP,AO,AQ]
  rw [show (999999999:Nat)=999999998+1 from rfl, Cg]
  simp (config := {maxSteps := 3000000}) (disch := omega) only [qa,g0,g1,g2,g3,g4,g5,g6,g7,g8,g9,BC,BF,C0,BR,BI,BK,BM,BY,BT,BU,w0,w1,w2,w3,w4,w5,w6,w7,w8,w9,BD,BB,BS,BP,BV,BQ,BH,BO,BL,BN,Mk,Nat.reduceAdd,Nat.reduceSub,Nat.reduceMul,Nat.reduceMod,Nat.reduceDiv,Q0,U,ln,y1,e2,i1,st3_1,j2e,Nat.add_zero,Am,Av,AN,AP,AO,AQ]
  rw [show (999999998:Nat)=999999997+1 from rfl, Cg]
  simp (config := {maxSteps := 3000000}) (disch := omega) only [qa,g0,g1,g2,g3,g4,g5,g6,g7,g8,g9,BC,BF,C0,BR,BI,BK,BM,BY,BT,BU,w0,w1,w2,w3,w4,w5,w6,w7,w8,w9,BD,BB,BS,BP,BV,BQ,BH,BO,BL,BN,Mk,Nat.reduceAdd,Nat.reduceSub,Nat.reduceMul,Nat.reduceMod,Nat.reduceDiv,Q0,U,ln,y2,Nat.add_zero,Am,Av,AN,AP,AO,AQ]
theorem le_loop {m fr:Nat} {rp bp:K4} {o N:Nat} {ex:Bool} {n:K4} {l tl:List UInt8} {s:Bool} {pr:Option K4} {d1 d3:V} {c1 c2 c3 c4 c5 c6 c7:SQ} (hne:rp≠bp) (ho:o+N=l.length) (hN:N<900000000) (hnl:∀ (h:Heap) (n:K4), Ar tab (m+2) ⟨.d0, .d7, .d2⟩ [sb [13]] h n = .rv (.tup [.int .i64 0, .bool false]) h n) :
    ∀ (hx:List UInt8) (at':Nat) (h:Heap), A8 rp h=rdC bp o N ex at'->A8 bp h=some (.c (cb l) s pr)->At l (o+at') (hx++13::tl)->fr≤at'->at'+hx.length≤fr+8->(∀ x∈hx, ∃ d, ∀ (h:Heap) (n:K4), Ar tab (m+2) ⟨.d0, .d7, .d2⟩ [sb [x]] h n = .rv (.tup [.int .i64 d, .bool true]) h n) →
    ∃ h', (∀ K, Jy (leL (Ar tab (m+2))) (K+hx.length+1) (.mk (.mk (.ptr rp 0) d1 (.int .i64 fr) d3) c1 c2 c3 c4 c5 c6 c7) h n = .ok (.exit 0) (.mk (.mk (.ptr rp 0) d1 (.int .i64 fr) d3) c1 c2 c3 c4 c5 c6 c7) h' n)∧A8 rp h'=rdC bp o N ex (at'+hx.length)∧(∀ q:K4, q≠rp->A8 q h'=A8 q h)
  | [], at', h, hr, hp, ha, hf, h8, hd => by
    obtain ⟨a1, a2, a3⟩ := At.head ha
    refine ⟨h, fun K => ?_, hr, fun q _ => rfl⟩
    unfold rdC at hr
    have e3:∀ κ:V->R, Cw 1 (.sl bp o N N ex 1) (some (.int .i64 at')) (some (.int .i64 (at'+1))) κ=κ (.sl bp (o+at') 1 (N - at') ex 1) := fun κ => (Hy (by omega) (by omega) (by omega) κ).trans (by rw [show at'+1 - at'=1 by omega])
    have e4:∀ κ:V->R, C4 (.sl bp (o+at') 1 (N - at') ex 1) h κ=κ (sb [13]) := fun κ => (E5 hp (by omega) κ).trans (by rw [show List.take 1 (List.drop (o+at') l)=[13] from At.take (a := [13]) (At.app (a := [13]) ha).1])
    have e5 := hnl h n
    rw [Cg]
    unfold leL
    simp (config := {maxSteps := 3000000}) (disch := omega) only [qa,g0,g1,g2,g3,g4,g5,g6,g7,g8,g9,BC,BF,C0,BR,BI,BK,BM,BY,BT,BU,w0,w1,w2,w3,w4,w5,w6,w7,w8,w9,BD,BB,BS,BP,BV,BQ,BH,BO,BL,BN,Mk,Nat.reduceAdd,Nat.reduceSub,Nat.reduceMul,Nat.reduceMod,Nat.reduceDiv,Q0,U,hr,e3,e4,e5,Nat.add_zero,Am,Av,AN,AP,AO,AQ]
  | x::hx, at', h, hr, hp, ha, hf, h8, hd => by
    obtain ⟨a1, a2, a3⟩ := At.head ha
    rw [List.length_cons] at h8
    obtain ⟨d, hd0⟩ := hd x (List.mem_cons_self ..)
    have hr' := hr
    unfold rdC at hr'
    have e3:∀ κ:V->R, Cw 1 (.sl bp o N N ex 1) (some (.int .i64 at')) (some (.int .i64 (at'+1))) κ=κ (.sl bp (o+at') 1 (N - at') ex 1) := fun κ => (Hy (by omega) (by omega) (by omega) κ).trans (by rw [show at'+1 - at'=1 by omega])
    have e4:∀ κ:V->R, C4 (.sl bp (o+at') 1 (N - at') ex 1) h κ=κ (sb [x]) := fun κ => (E5 hp (by omega) κ).trans (by rw [show List.take 1 (List.drop (o+at') l)=[x] from At.take (a := [x]) (At.app (a := [x]) (b := hx++13::tl) ha).1])
    have e5 := hd0 h n
    obtain ⟨j1, j1e⟩:∃ z, Af rp h (some (.c (.l [.sl bp o N N ex 1, .int .i64 (at'+1), .int .i64 0]) false none))=z := ⟨_, rfl⟩
    obtain ⟨h', e, k1, k2⟩ := le_loop (fr := fr) (d1 := d1) (d3 := d3) (c1 := c1) (c2 := c2) (c3 := c3) (c4 := c4) (c5 := c5) (c6 := c6) (c7 := c7) (n := n) hne ho hN hnl hx (at'+1) j1 (by rw [←j1e]; exact A6 _ _ _) (by rw [←j1e, A7 _ _ hne]; exact hp) (by rw [←Nat.add_assoc]; exact a3) (by omega) (by omega) fun y hy => hd y (List.mem_cons_of_mem _ hy)
    refine ⟨h', fun K => ?_, by rw [k1, List.length_cons, show at'+1+hx.length=at'+(hx.length+1) by omega], fun q hq => (k2 q hq).trans (by rw [←j1e, A7 _ _ (Ne.symm hq)])⟩
    rw [List.length_cons, show K+(hx.length+1)+1=(K+hx.length+1)+1 by omega, Cg, ←e K]
    unfold leL
    simp (config := {maxSteps := 3000000}) (disch := omega) only [qa,g0,g1,g2,g3,g4,g5,g6,g7,g8,g9,BC,BF,C0,BR,BI,BK,BM,BY,BT,BU,w0,w1,w2,w3,w4,w5,w6,w7,w8,w9,BD,BB,BS,BP,BV,BQ,BH,BO,BL,BN,Mk,Nat.reduceAdd,Nat.reduceSub,Nat.reduceMul,Nat.reduceMod,Nat.reduceDiv,Q0,U,hr',e3,e4,e5,st3_1,j1e,Nat.add_zero,Am,Av,AN,AP,AO,AQ]
noncomputable def ckL (c:DZ):S->Heap->K4->R := fun t h n=>g0 t fun z1=>Ah z1 fun z2=>Al 2 z2 fun z3=>Az z3 h fun z4=>AW z4 (iI 0) fun z5=>AY z5 (Aj 1 (Ai (c ⟨.d0,.d6,.d3⟩ [z1] h n) fun z6 h n=>Aj 2 (Ah z1 fun z7=>Al 2 z7 fun z8=>Az z8 h fun z9=>B4 z9 (iI 0) fun za=>Br (AY za (nR t h n) (AW z6 (iI 0) fun zb=>AY zb (Ai (c ⟨.d0,.d6,.d4⟩ [z1,(.str 2 2573)] h n) fun zc h n=>g2 t fun zd=>w1 t zd fun t=>rT t h n)<|g2 t fun ze=>B0 ze fun zf=>C7 (iI 4000) zf fun zg=>C3 z6 zg fun zh=>Br (AY zh (Ah z1 fun zi=>Al 2 zi fun zj=>Bb zj (iI 9) h fun h=>nR t h n) (mV z6 fun zk=>mV z1 fun zl=>AB (Ah zl Ax) fun zm=>AB (Al 0 zm Ax) fun zn=>AB (Az zn h Ax) fun zo=>AB (B3 zo Ax) fun zp=>mV z1 fun zq=>AB (Ah zq Ax) fun zr=>AB (Al 1 zr Ax) fun zs=>AB (Az zs h Ax) fun zt=>AB (C7 zp zt Ax) fun zu=>AB (C3 zk zu Ax) fun zv=>mV zv fun zw=>Br (AY zw (Ah z1 fun zx=>Al 2 zx fun zy=>Bb zy (iI 11) h fun h=>nR t h n) (mV ze fun zz=>mV z1 fun z10=>AB (Ah z10 Ax) fun z11=>AB (Al 0 z11 Ax) fun z12=>AB (Az z12 h Ax) fun z13=>mV z1 fun z14=>AB (Ah z14 Ax) fun z15=>AB (Al 1 z15 Ax) fun z16=>AB (Az z16 h Ax) fun z17=>mV z1 fun z18=>AB (Ah z18 Ax) fun z19=>AB (Al 1 z19 Ax) fun z1a=>AB (Az z1a h Ax) fun z1b=>mV z6 fun z1c=>AB (Ap z1b z1c Ax) fun z1d=>AB (Cw 1 z13 (some z17) (some z1d) Ax) fun z1e=>AB (C4 z1e h Ax) fun z1f=>AB (Ap zz z1f Ax) fun z1g=>mV z1g fun z1h=>Ah z1 fun z1i=>Al 1 z1i fun z1j=>Az z1j h fun z1k=>Ap z1k z6 fun z1l=>Ah z1 fun z1m=>Al 1 z1m fun z1n=>Bb z1n z1l h fun h=>Ai (c ⟨.d0,.d6,.d4⟩ [z1,(.str 2 2573)] h n) fun z1o h n=>w2 t z1h fun t=>nR t h n)) fun t h n=>nR t h n)) fun t h n=>nR t h n)) fun t h n=>nR t h n) fun t h n=>nR t h n) fun t h n=>nR t h n)<|.ok (.exit 0) t h n
noncomputable def x82L:Ent := .code en3 (fun c t h n=>Aj 0 (w1 t (.str 0 0) fun t=>w2 t (.str 0 0) fun t=>Bd (ckL c) t h n) fun t h n=>w1 t (.str 0 0) fun t=>rT t h n) (fun t h n=>g1 t fun a0=>.rv a0 h n)
theorem x82_L:x82=x82L := rfl
/-- How Hexa answers at a length's digits. -/
structure Hx (m:Nat) (hx:List UInt8) (k:Nat):Prop where
  no:∀ (h:Heap) (n:K4), Ar tab (m+2) ⟨.d0, .d7, .d2⟩ [sb [13]] h n = .rv (.tup [.int .i64 0, .bool false]) h n
  one:∀ x∈hx, ∃ d, ∀ (h:Heap) (n:K4), Ar tab (m+2) ⟨.d0, .d7, .d2⟩ [sb [x]] h n = .rv (.tup [.int .i64 d, .bool true]) h n
  all:∀ (h:Heap) (n:K4), Ar tab (m+2) ⟨.d0, .d7, .d2⟩ [sb hx] h n = .rv (.tup [.int .i64 k, .bool true]) h n
  lo:1≤hx.length
  hi:hx.length≤8
theorem length_ok {m k:Nat} {rp bp:K4} {o N at':Nat} {ex:Bool} {h:Heap} {n:K4} {l hx tl:List UInt8} {s:Bool} {pr:Option K4} (H:Hx m hx k) (hr:A8 rp h=rdC bp o N ex at') (hp:A8 bp h=some (.c (cb l) s pr)) (hne:rp≠bp) (ho:o+N=l.length) (hN:N<900000000) (ha:At l (o+at') (hx++13::10::tl)) :
    ∃ h', Ar tab (m+3) ⟨.d0, .d6, .d3⟩ [.ptr rp 0] h n = .rv (.int .i64 k) h' n∧A8 rp h'=rdC bp o N ex (at'+hx.length+2)∧(∀ q:K4, q≠rp->A8 q h'=A8 q h) := by
  have h1 := H.lo
  have h2 := H.hi
  obtain ⟨a1, a2⟩ := At.app ha
  have hle := At.le ha (by rw [List.length_append]; omega)
  simp only [List.length_append,List.length_cons] at hle
  obtain ⟨j1, e, k1, k2⟩ := le_loop (m := m) (fr := at') (d1 := .int .i64 0) (d3 := Ay) (c1 := Q0) (c2 := Q0) (c3 := Q0) (c4 := Q0) (c5 := Q0) (c6 := Q0) (c7 := Q0) (n := n) hne ho hN H.no hx at' h hr hp ha (Nat.le_refl _) (by omega) H.one
  have e9 := e (999999999 - hx.length)
  rw [show 999999999 - hx.length+hx.length+1=999999999+1 by omega, Cg, ←Cu] at e9
  simp only [Q0] at e9
  have hp1:A8 bp j1=some (.c (cb l) s pr) := (k2 bp (Ne.symm hne)).trans hp
  obtain ⟨j2, w1, w2, w3⟩ := want_ok (m := m+1) (n := n) k1 hp1 hne ho hN (by rw [←Nat.add_assoc]; exact a2)
  have k1' := k1
  unfold rdC at k1'
  have hr' := hr
  unfold rdC at hr'
  have e3:∀ κ:V->R, Cw 1 (.sl bp o N N ex 1) (some (.int .i64 at')) (some (.int .i64 (at'+hx.length))) κ=κ (.sl bp (o+at') hx.length (N - at') ex 1) := fun κ => (Hy (by omega) (by omega) (by omega) κ).trans (by rw [show at'+hx.length - at'=hx.length by omega])
  have e4:∀ κ:V->R, C4 (.sl bp (o+at') hx.length (N - at') ex 1) j1 κ=κ (sb hx) := fun κ => (E5 hp1 (by omega) κ).trans (by rw [At.take a1])
  have e5 := H.all j1 n
  have hs:at'+hx.length - at'=hx.length := by omega
  have hz:(decide (hx.length=0))=false := decide_eq_false (by omega)
  refine ⟨j2, ?_, w2, fun q hq => (w3 q hq).trans (k2 q hq)⟩
  rw [call2_at, show C5 ⟨.d0, .d6, .d3⟩ tab=some x99 from rfl, x99_L, x99L]
  simp (config := {maxSteps := 3000000}) (disch := omega) only [qa,g0,g1,g2,g3,g4,g5,g6,g7,g8,g9,BC,BF,C0,BR,BI,BK,BM,BY,BT,BU,w0,w1,w2,w3,w4,w5,w6,w7,w8,w9,BD,BB,BS,BP,BV,BQ,BH,BO,BL,BN,Mk,Nat.reduceAdd,Nat.reduceSub,Nat.reduceMul,Nat.reduceMod,Nat.reduceDiv,Q0,U,en3,hr',e9,k1',hs,hz,e3,e4,e5,w1,Nat.add_zero,Am,Av,AN,AP,AO,AQ]
/-- Chunks' bytes. -/
def encB:List (List UInt8×List UInt8)->List UInt8
  | [] => [48, 13, 10, 13, 10]
  | (hx, d)::cs => hx++13::10::(d++13::10::encB cs)
def datB (cs:List (List UInt8×List UInt8)):List UInt8 := cs.flatMap fun x => x.2
theorem ck_loop {m:Nat} {rp bp:K4} {o N:Nat} {ex:Bool} {n:K4} {l tl:List UInt8} {s:Bool} {pr:Option K4} {d3:V} {c1 c2 c3 c4 c5 c6 c7:SQ} (H0:Hx m [48] 0) (hne:rp≠bp) (ho:o+N=l.length) (hN:N<900000000) :
    ∀ (cs:List (List UInt8×List UInt8)) (acc:List UInt8) (at':Nat) (d1:V) (h:Heap), A8 rp h=rdC bp o N ex at'->A8 bp h=some (.c (cb l) s pr)->At l (o+at') (encB cs++tl)->acc.length+(datB cs).length≤4000->(∀ x∈cs, Hx m x.1 x.2.length∧1≤x.2.length) →
    ∃ h', (∀ K, Jy (ckL (Ar tab (m+3))) (K+cs.length+1) (.mk (.mk (.ptr rp 0) d1 (sb acc) d3) c1 c2 c3 c4 c5 c6 c7) h n = .ok .ret (.mk (.mk (.ptr rp 0) (sb (acc++datB cs)) (sb (acc++datB cs)) d3) c1 c2 c3 c4 c5 c6 c7) h' n)∧A8 rp h'=rdC bp o N ex (at'+(encB cs).length)∧(∀ q:K4, q≠rp->A8 q h'=A8 q h)
  | [], acc, at', d1, h, hr, hp, ha, hl, hx => by
    have hr' := hr
    unfold rdC at hr'
    obtain ⟨j1, e1, k1, k2⟩ := length_ok (n := n) (hx := [48]) (tl := 13::10::tl) H0 hr hp hne ho hN ha
    have hp1:A8 bp j1=some (.c (cb l) s pr) := (k2 bp (Ne.symm hne)).trans hp
    have a2:At l (o+(at'+1+2)) (13::10::tl) := by
      have := (At.app (a := [48, 13, 10]) (b := 13::10::tl) ha).2
      rw [show o+(at'+1+2)=o+at'+3 by omega]; exact this
    obtain ⟨j2, e2, w2, w3⟩ := want_ok (m := m+2) (n := n) k1 hp1 hne ho hN a2
    have k1' := k1
    unfold rdC at k1'
    refine ⟨j2, fun K => ?_, w2, fun q hq => (w3 q hq).trans (k2 q hq)⟩
    rw [Cg, show datB []=[] from rfl, List.append_nil]
    unfold ckL
    simp (config := {maxSteps := 3000000}) (disch := omega) only [qa,g0,g1,g2,g3,g4,g5,g6,g7,g8,g9,BC,BF,C0,BR,BI,BK,BM,BY,BT,BU,w0,w1,w2,w3,w4,w5,w6,w7,w8,w9,BD,BB,BS,BP,BV,BQ,BH,BO,BL,BN,Mk,Nat.reduceAdd,Nat.reduceSub,Nat.reduceMul,Nat.reduceMod,Nat.reduceDiv,Q0,U,hr',e1,k1',e2,Nat.add_zero,Am,Av,AN,AP,AO,AQ]
  | (hx, d)::cs, acc, at', d1, h, hr, hp, ha, hl, hxs => by
    obtain ⟨Hd, hd1⟩ := hxs (hx, d) (List.mem_cons_self ..)
    have hd1:1≤d.length := hd1
    have hr' := hr
    unfold rdC at hr'
    have hdat:datB ((hx, d)::cs)=d++datB cs := rfl
    rw [hdat, List.length_append] at hl
    have ha':At l (o+at') (hx++13::10::(d++13::10::(encB cs++tl))) := by
      have e:encB ((hx, d)::cs)++tl=hx++13::10::(d++13::10::(encB cs++tl)) := by
        show (hx++13::10::(d++13::10::encB cs))++tl=_
        simp only [List.append_assoc,List.cons_append]
      rw [←e]; exact ha
    obtain ⟨j1, e1, k1, k2⟩ := length_ok (n := n) Hd hr hp hne ho hN ha'
    have hp1:A8 bp j1=some (.c (cb l) s pr) := (k2 bp (Ne.symm hne)).trans hp
    have b2:At l (o+(at'+hx.length+2)) (d++13::10::(encB cs++tl)) := by
      have := (At.app ha').2
      obtain ⟨_, _, c3⟩ := At.head this
      obtain ⟨_, _, c4⟩ := At.head c3
      rw [show o+(at'+hx.length+2)=o+at'+hx.length+1+1 by omega]; exact c4
    obtain ⟨b3, b4⟩ := At.app b2
    have hle := At.le b2 (by rw [List.length_append]; omega)
    simp only [List.length_append,List.length_cons] at hle
    obtain ⟨A, hA⟩:∃ x, at'+hx.length+2=x := ⟨_, rfl⟩
    rw [hA] at k1 b3 b4 hle
    have k1' := k1
    unfold rdC at k1'
    obtain ⟨j2, j2e⟩:∃ z, Af rp j1 (some (.c (.l [.sl bp o N N ex 1, .int .i64 (A+d.length), .int .i64 0]) false none))=z := ⟨_, rfl⟩
    have y2:A8 rp j2=rdC bp o N ex (A+d.length) := by rw [←j2e]; exact A6 _ _ _
    have hp2:A8 bp j2=some (.c (cb l) s pr) := by rw [←j2e, A7 _ _ hne]; exact hp1
    obtain ⟨j3, e3, w2, w3⟩ := want_ok (m := m+2) (n := n) y2 hp2 hne ho hN (by rw [←Nat.add_assoc]; exact b4)
    have hp3:A8 bp j3=some (.c (cb l) s pr) := (w3 bp (Ne.symm hne)).trans hp2
    obtain ⟨_, _, t5⟩ := At.head b4
    obtain ⟨_, _, t6⟩ := At.head t5
    obtain ⟨h', e, f1, f2⟩ := ck_loop (d3 := d3) (c1 := c1) (c2 := c2) (c3 := c3) (c4 := c4) (c5 := c5) (c6 := c6) (c7 := c7) (n := n) H0 hne ho hN cs (acc++d) (A+d.length+2) d1 j3 w2 hp3 (by rw [show o+(A+d.length+2)=o+A+d.length+1+1 by omega]; exact t6) (by rw [List.length_append]; omega) fun x hx' => hxs x (List.mem_cons_of_mem _ hx')
    have s3:∀ κ:V->R, Cw 1 (.sl bp o N N ex 1) (some (.int .i64 A)) (some (.int .i64 (A+d.length))) κ=κ (.sl bp (o+A) d.length (N - A) ex 1) := fun κ => (Hy (by omega) (by omega) (by omega) κ).trans (by rw [show A+d.length - A=d.length by omega])
    have s4:∀ κ:V->R, C4 (.sl bp (o+A) d.length (N - A) ex 1) j1 κ=κ (sb d) := fun κ => (E5 hp1 (by omega) κ).trans (by rw [At.take b3])
    have s5:∀ κ:V->R, Ap (sb acc) (sb d) κ=κ (sb (acc++d)) := fun κ => Eu (by omega) κ
    have s6:∀ κ:V->R, B0 (sb acc) κ=κ (.int .i64 acc.length) := fun κ => Fe acc (by omega) κ
    have hz:(decide (d.length=0))=false := decide_eq_false (by omega)
    refine ⟨h', fun K => ?_, ?_, fun q hq => (f2 q hq).trans ((w3 q hq).trans (by rw [←j2e, A7 _ _ (Ne.symm hq)]; exact k2 q hq))⟩
    · rw [List.length_cons, show K+(cs.length+1)+1=(K+cs.length+1)+1 by omega, Cg, hdat, ←List.append_assoc, ←e K]
      unfold ckL
      simp (config := {maxSteps := 3000000}) (disch := omega) only [qa,g0,g1,g2,g3,g4,g5,g6,g7,g8,g9,BC,BF,C0,BR,BI,BK,BM,BY,BT,BU,w0,w1,w2,w3,w4,w5,w6,w7,w8,w9,BD,BB,BS,BP,BV,BQ,BH,BO,BL,BN,Mk,Nat.reduceAdd,Nat.reduceSub,Nat.reduceMul,Nat.reduceMod,Nat.reduceDiv,Q0,U,hr',e1,k1',hz,s6,s3,s4,s5,st3_1,j2e,e3,Nat.add_zero,Am,Av,AN,AP,AO,AQ]
    · rw [f1]
      have:(encB ((hx, d)::cs)).length=hx.length+2+d.length+2+(encB cs).length := by
        show (hx++13::10::(d++13::10::encB cs)).length=_
        simp only [List.length_append,List.length_cons]; omega
      rw [this, ←hA, show at'+hx.length+2+d.length+2+(encB cs).length=at'+(hx.length+2+d.length+2+(encB cs).length) by omega]
theorem chunks_ok {m:Nat} {rp bp:K4} {o N:Nat} {ex:Bool} {h:Heap} {n:K4} {l tl:List UInt8} {s:Bool} {pr:Option K4} {cs:List (List UInt8×List UInt8)} (H0:Hx m [48] 0) (hr:A8 rp h=rdC bp o N ex 0) (hp:A8 bp h=some (.c (cb l) s pr)) (hne:rp≠bp) (ho:o+N=l.length) (hN:N<900000000) (ha:At l o (encB cs++tl)) (hl:(datB cs).length≤4000) (hcs:cs.length<100) (hx:∀ x∈cs, Hx m x.1 x.2.length∧1≤x.2.length) :
    ∃ h', Ar tab (m+4) ⟨.d0, .d5, .d2⟩ [.ptr rp 0] h n = .rv (sb (datB cs)) h' n∧A8 rp h'=rdC bp o N ex (encB cs).length∧(∀ q:K4, q≠rp->A8 q h'=A8 q h) := by
  obtain ⟨h', e, k1, k2⟩ := ck_loop (n := n) (d3 := Ay) (c1 := Q0) (c2 := Q0) (c3 := Q0) (c4 := Q0) (c5 := Q0) (c6 := Q0) (c7 := Q0) H0 hne ho hN cs [] 0 (.str 0 0) h hr hp ha (by show 0+_≤_; omega) hx
  have e9 := e (999999999 - cs.length)
  rw [show 999999999 - cs.length+cs.length+1=999999999+1 by omega, Cg, ←Cu, List.nil_append] at e9
  simp only [Q0] at e9
  rw [show sb ([]:List UInt8) = .str 0 0 from rfl] at e9
  refine ⟨h', ?_, by rw [k1, Nat.zero_add], k2⟩
  rw [call2_at, show C5 ⟨.d0, .d5, .d2⟩ tab=some x82 from rfl, x82_L, x82L]
  simp (config := {maxSteps := 3000000}) (disch := omega) only [qa,g0,g1,g2,g3,g4,g5,g6,g7,g8,g9,BC,BF,C0,BR,BI,BK,BM,BY,BT,BU,w0,w1,w2,w3,w4,w5,w6,w7,w8,w9,BD,BB,BS,BP,BV,BQ,BH,BO,BL,BN,Mk,Nat.reduceAdd,Nat.reduceSub,Nat.reduceMul,Nat.reduceMod,Nat.reduceDiv,Q0,U,en3,e9,Am,Av,AN,AP,AO,AQ]
theorem body_ch {m:Nat} {bp:K4} {o N:Nat} {ex:Bool} {h:Heap} {n:K4} {l tl:List UInt8} {s:Bool} {pr:Option K4} {cs:List (List UInt8×List UInt8)} (H0:Hx m [48] 0) (hp:A8 bp h=some (.c (cb l) s pr)) (hb:bp.toN<n.toN) (ho:o+N=l.length) (hN:N<900000000) (ha:At l o (encB cs++tl)) (hl:(datB cs).length≤4000) (hcs:cs.length<100) (hx:∀ x∈cs, Hx m x.1 x.2.length∧1≤x.2.length) (hn:n.toN<59000) :
    ∃ h' n', Ar tab (m+5) ⟨.d0, .d3, .d15⟩ [.agg [.bool true, .int .i64 0], .sl bp o N N ex 1] h n = .rv (.tup [sb (datB cs), .int .i64 (encB cs).length, .int .i64 0]) h' n'∧n.toN≤n'.toN∧n'.toN≤n.toN+2∧(∀ q:K4, q.toN<n.toN->A8 q h'=A8 q h)∧(Bc h n->Bc h' n') := by
  have u1 := K4.up_toN (p := n) (by omega)
  have u2 := K4.up_toN (p := n.up) (by omega)
  obtain ⟨j1, j1e⟩:∃ x, Af n h (some (.c (.l [.bool true, .int .i64 0]) false none))=x := ⟨_, rfl⟩
  have f1:∀ q:K4, q≠n->A8 q j1=A8 q h := fun q hq => by rw [←j1e]; exact A7 _ _ hq.symm
  have y1:A8 n j1=some (.c (.l [.bool true, .int .i64 0]) false none) := by rw [←j1e]; exact A6 _ _ _
  obtain ⟨j2, j2e⟩:∃ x, Af n.up j1 (some (.c (.l [.sl bp o N N ex 1, .int .i64 0, .int .i64 0]) false none))=x := ⟨_, rfl⟩
  have f2:∀ q:K4, q≠n.up->A8 q j2=A8 q j1 := fun q hq => by rw [←j2e]; exact A7 _ _ hq.symm
  have y2:A8 n.up j2=rdC bp o N ex 0 := by rw [←j2e]; exact A6 _ _ _
  obtain ⟨h', e, k1, k2⟩ := chunks_ok (n := n.up.up) H0 y2 ((f2 bp (K4.ne_of_lt (by omega))).trans ((f1 bp (K4.ne_of_lt hb)).trans hp)) (K4.ne_of_lt (by omega)).symm ho hN ha hl hcs hx
  unfold rdC at k1
  have ep:∀ κ:List V->R, Ag 0 (.sl bp o N N ex 1) [.nil .sl, .int .i64 0, .int .i64 0] κ=κ [.sl bp o N N ex 1, .int .i64 0, .int .i64 0] := fun κ => rfl
  refine ⟨h', n.up.up, ?_, by omega, by omega, fun q hq => ?_, fun hf q hq => ?_⟩
  · rw [call2_at, show C5 ⟨.d0, .d3, .d15⟩ tab=some x63 from rfl, x63]
    simp (config := {maxSteps := 3000000}) (disch := omega) only [qa,g0,g1,g2,g3,g4,g5,g6,g7,g8,g9,BC,BF,C0,BR,BI,BK,BM,BY,BT,BU,w0,w1,w2,w3,w4,w5,w6,w7,w8,w9,BD,BB,BS,BP,BV,BQ,BH,BO,BL,BN,Mk,Nat.reduceAdd,Nat.reduceSub,Nat.reduceMul,Nat.reduceMod,Nat.reduceDiv,Q0,U,en1,j1e,y1,ep,j2e,e,k1,Am,Av,AN,AP,AO,AQ]
  · rw [k2 q (K4.ne_of_lt (by omega)), f2 q (K4.ne_of_lt (by omega)), f1 q (K4.ne_of_lt hq)]
  · rw [k2 q (K4.ne_of_lt (by omega)).symm, f2 q (K4.ne_of_lt (by omega)).symm, f1 q (K4.ne_of_lt (by omega)).symm]; exact hf q (by omega)
theorem body_len {m k:Nat} {bp:K4} {o N:Nat} {ex:Bool} {h:Heap} {n:K4} {l d:List UInt8} {s:Bool} {pr:Option K4} (hp:A8 bp h=some (.c (cb l) s pr)) (hb:bp.toN<n.toN) (ho:o+N=l.length) (hN:N<900000000) (ha:At l o d) (hk:d.length=k) (hkN:k≤N) (hn:n.toN<59000) :
    ∃ h' n', Ar tab (m+5) ⟨.d0, .d3, .d15⟩ [.agg [.bool false, .int .i64 k], .sl bp o N N ex 1] h n = .rv (.tup [sb d, .int .i64 k, .int .i64 0]) h' n'∧n.toN≤n'.toN∧n'.toN≤n.toN+2∧(∀ q:K4, q.toN<n.toN->A8 q h'=A8 q h)∧(Bc h n->Bc h' n') := by
  subst hk
  have u1 := K4.up_toN (p := n) (by omega)
  obtain ⟨j1, j1e⟩:∃ x, Af n h (some (.c (.l [.bool false, .int .i64 d.length]) false none))=x := ⟨_, rfl⟩
  have f1:∀ q:K4, q≠n->A8 q j1=A8 q h := fun q hq => by rw [←j1e]; exact A7 _ _ hq.symm
  have y1:A8 n j1=some (.c (.l [.bool false, .int .i64 d.length]) false none) := by rw [←j1e]; exact A6 _ _ _
  have e1:∀ κ:V->R, Q9 (.int .i64 d.length) (.int .i64 0) κ=κ (.int .i64 d.length) := fun κ => by rw [Sm (by omega) (by omega), RE (by omega) (by omega), decide_eq_false (by omega)]; rfl
  have e2:∀ κ:V->R, Cw 1 (.sl bp o N N ex 1) none (some (.int .i64 d.length)) κ=κ (.sl bp o d.length N ex 1) := fun κ => Vq (by omega) (by omega) κ
  have e3:∀ κ:V->R, C4 (.sl bp o d.length N ex 1) j1 κ=κ (sb d) := fun κ => (E5 ((f1 bp (K4.ne_of_lt hb)).trans hp) (by omega) κ).trans (by rw [At.take ha])
  refine ⟨j1, n.up, ?_, by omega, by omega, fun q hq => f1 q (K4.ne_of_lt hq), fun hf q hq => (f1 q (K4.ne_of_lt (by omega)).symm).trans (hf q (by omega))⟩
  rw [call2_at, show C5 ⟨.d0, .d3, .d15⟩ tab=some x63 from rfl, x63]
  simp (config := {maxSteps := 3000000}) (disch := omega) only [qa,g0,g1,g2,g3,g4,g5,g6,g7,g8,g9,BC,BF,C0,BR,BI,BK,BM,BY,BT,BU,w0,w1,w2,w3,w4,w5,w6,w7,w8,w9,BD,BB,BS,BP,BV,BQ,BH,BO,BL,BN,Mk,Nat.reduceAdd,Nat.reduceSub,Nat.reduceMul,Nat.reduceMod,Nat.reduceDiv,Q0,U,en1,j1e,y1,e1,e2,e3,Am,Av,AN,AP,AO,AQ]
theorem st4_3 (a b c d v:V) (h:Heap) (p:K4) (κ:Heap->R):NM (some (.c (.l [a, b, c, d]) false none)) h p 3 v κ=κ (Af p h (some (.c (.l [a, b, c, v]) false none))) := id rfl
theorem ldnO_4 (a b c d:V) (s:Bool) (pr:Option K4) (κ:V->R):Lo (some (.c (.l [a, b, c, d]) s pr)) 4 0 κ=κ (.agg [a, b, c, d]) := id rfl
theorem st4_all {p:K4} {h:Heap} {w x y z a b c d:V} (hp:A8 p h=some (.c (.l [w, x, y, z]) false none)) (κ:Heap->R):Bn 4 (.ptr p 0) (.agg [a, b, c, d]) h κ=κ (Af p h (some (.c (.l [a, b, c, d]) false none))) := (Re (m := 4) (b := [a, b, c, d]) hp rfl (by show 0+4≤4; omega) κ).trans rfl
theorem st2_all {p:K4} {h:Heap} {w x a b:V} (hp:A8 p h=some (.c (.l [w, x]) false none)) (κ:Heap->R):Bn 2 (.ptr p 0) (.agg [a, b]) h κ=κ (Af p h (some (.c (.l [a, b]) false none))) := (Re (m := 2) (b := [a, b]) hp rfl (by show 0+2≤2; omega) κ).trans rfl
/-- A call that leaves what is older as it was. -/
def Fr (h:Heap) (n:K4) (h':Heap) (n':K4) (c:Nat):Prop := n.toN≤n'.toN∧n'.toN≤n.toN+c∧(∀ x:K4, x.toN<n.toN->A8 x h'=A8 x h)∧(Bc h n->Bc h' n')
theorem Fr.trans {h h1 h2:Heap} {n n1 n2:K4} {c d:Nat} (A:Fr h n h1 n1 c) (B:Fr h1 n1 h2 n2 d):Fr h n h2 n2 (c+d) :=
  ⟨by have := A.1; have := B.1; omega, by have := A.2.1; have := B.2.1; omega, fun x hx => (B.2.2.1 x (by have := A.1; omega)).trans (A.2.2.1 x hx), fun hf => B.2.2.2 (A.2.2.2 hf)⟩
theorem Fr.put {h:Heap} {n:K4} (hn:n.toN<65000) (o:Option Ob):Fr h n (Af n h o) n.up 1 := by
  have u := K4.up_toN (p := n) (by omega)
  exact ⟨by omega, by omega, fun x hx => A7 _ _ (K4.ne_of_lt hx).symm, fun hf q hq => (A7 _ _ (K4.ne_of_lt (by omega))).trans (hf q (by omega))⟩
theorem Fr.set {h0 h:Heap} {n0 n p:K4} {c:Nat} (A:Fr h0 n0 h n c) (h1:n0.toN≤p.toN) (h2:p.toN<n.toN) (o:Option Ob):Fr h0 n0 (Af p h o) n c :=
  ⟨A.1, A.2.1, fun x hx => (A7 _ _ (K4.ne_of_lt (by omega)).symm).trans (A.2.2.1 x hx), fun hf q hq => (A7 _ _ (K4.ne_of_lt (by omega))).trans (A.2.2.2 hf q hq)⟩
theorem next_ok {m:Nat} {mp bp:K4} {o N T M:Nat} {ex:Bool} {h:Heap} {n:K4} {me ta nm w dat:List UInt8} {bb:Bool} {kk:Nat} {X:Option Ob} (hm:A8 mp h=some (.c (.l [.sl bp o N N ex 1, .int .i64 0]) false none)) (hmn:mp.toN<n.toN) (hbn:bp.toN<n.toN) (hX:A8 bp h=X)
    (hr:∀ (h:Heap) (n:K4), A8 bp h=X->bp.toN<n.toN->n.toN<57000->∃ h' n' q, Ar tab (m+9) ⟨.d0, .d3, .d13⟩ [.sl bp o N N ex 1] h n = .rv (.tup [.agg [sb me, sb ta, .sl q 0 1 1 false 2, .str 0 0], .int .i64 T, .int .i64 0]) h' n'∧A8 q h'=some (.c (.l [sb nm, sb w]) false none)∧n.toN≤q.toN∧q.toN<n'.toN∧Fr h n h' n' 5)
    (hw:∀ (h:Heap) (n q:K4), A8 q h=some (.c (.l [sb nm, sb w]) false none)->q.toN<n.toN->n.toN<56000->∃ h' n', Ar tab (m+9) ⟨.d0, .d3, .d14⟩ [.sl q 0 1 1 false 2] h n = .rv (.tup [.agg [.bool bb, .int .i64 kk], .int .i64 0]) h' n'∧Fr h n h' n' 12)
    (hb:∀ (h:Heap) (n:K4), A8 bp h=X->bp.toN<n.toN->n.toN<57000->∃ h' n', Ar tab (m+9) ⟨.d0, .d3, .d15⟩ [.agg [.bool bb, .int .i64 kk], .sl bp (o+T) (N - T) (N - T) ex 1] h n = .rv (.tup [sb dat, .int .i64 M, .int .i64 0]) h' n'∧Fr h n h' n' 2)
    (hT:T≤N) (hN:N<900000000) (hM:M<900000000) (hn:n.toN<55000) :
    ∃ h' n' q, Ar tab (m+10) ⟨.d0, .d2, .d4⟩ [.ptr mp 0] h n = .rv (.tup [.agg [sb me, sb ta, .sl q 0 1 1 false 2, sb dat], .int .i64 (T+M), .int .i64 0]) h' n'∧Fr h n h' n' 22 := by
  have u1 := K4.up_toN (p := n) (by omega)
  obtain ⟨j1, j1e⟩:∃ x, Af n h (some (.c (.l [.str 0 0, .str 0 0, .nil .sl, .str 0 0]) false none))=x := ⟨_, rfl⟩
  have F1:Fr h n j1 n.up 1 := j1e ▸ Fr.put (by omega) _
  have y1:A8 n j1=some (.c (.l [.str 0 0, .str 0 0, .nil .sl, .str 0 0]) false none) := by rw [←j1e]; exact A6 _ _ _
  obtain ⟨j2, n2, q, e2, q2, q3, q4, F2⟩ := hr j1 n.up ((F1.2.2.1 bp hbn).trans hX) (by omega) (by omega)
  have F12 := F1.trans F2
  have v2 := F2.2.1
  have v2' := F2.1
  have u2 := K4.up_toN (p := n2) (by omega)
  obtain ⟨jz, jze⟩:∃ x, Af n2 j2 (some (.c (.l [.str 0 0, .str 0 0, .nil .sl, .str 0 0]) false none))=x := ⟨_, rfl⟩
  have Fz:Fr j2 n2 jz n2.up 1 := jze ▸ Fr.put (by omega) _
  have yz:A8 n2 jz=some (.c (.l [.str 0 0, .str 0 0, .nil .sl, .str 0 0]) false none) := by rw [←jze]; exact A6 _ _ _
  obtain ⟨j3, j3e⟩:∃ x, Af n2 jz (some (.c (.l [sb me, sb ta, .sl q 0 1 1 false 2, .str 0 0]) false none))=x := ⟨_, rfl⟩
  have F3:Fr j2 n2 j3 n2.up 1 := j3e ▸ Fz.set (Nat.le_refl _) (by omega) _
  have y3:A8 n2 j3=some (.c (.l [sb me, sb ta, .sl q 0 1 1 false 2, .str 0 0]) false none) := by rw [←j3e]; exact A6 _ _ _
  have s3:∀ κ:Heap->R, Bn 4 (.ptr n2 0) (.agg [sb me, sb ta, .sl q 0 1 1 false 2, .str 0 0]) jz κ=κ j3 := fun κ => (st4_all yz κ).trans (by rw [j3e])
  obtain ⟨j4, n4, e4, F4⟩ := hw j3 n2.up q ((F3.2.2.1 q q4).trans q2) (by omega) (by omega)
  have v4 := F4.2.1
  have v4' := F4.1
  have u4 := K4.up_toN (p := n4) (by omega)
  obtain ⟨jy, jye⟩:∃ x, Af n4 j4 (some (.c (.l [.bool false, .int .i64 0]) false none))=x := ⟨_, rfl⟩
  have Fy:Fr j4 n4 jy n4.up 1 := jye ▸ Fr.put (by omega) _
  have yy:A8 n4 jy=some (.c (.l [.bool false, .int .i64 0]) false none) := by rw [←jye]; exact A6 _ _ _
  obtain ⟨j5, j5e⟩:∃ x, Af n4 jy (some (.c (.l [.bool bb, .int .i64 kk]) false none))=x := ⟨_, rfl⟩
  have F5:Fr j4 n4 j5 n4.up 1 := j5e ▸ Fy.set (Nat.le_refl _) (by omega) _
  have y5:A8 n4 j5=some (.c (.l [.bool bb, .int .i64 kk]) false none) := by rw [←j5e]; exact A6 _ _ _
  have s5:∀ κ:Heap->R, Bn 2 (.ptr n4 0) (.agg [.bool bb, .int .i64 kk]) jy κ=κ j5 := fun κ => (st2_all yy κ).trans (by rw [j5e])
  have G5 := ((F12.trans F3).trans F4).trans F5
  have m5:A8 mp j5=some (.c (.l [.sl bp o N N ex 1, .int .i64 0]) false none) := (G5.2.2.1 mp hmn).trans hm
  have m1:A8 mp j1=some (.c (.l [.sl bp o N N ex 1, .int .i64 0]) false none) := (F1.2.2.1 mp hmn).trans hm
  obtain ⟨j6, n6, e6, F6⟩ := hb j5 n4.up ((G5.2.2.1 bp hbn).trans hX) (by omega) (by omega)
  have v6 := F6.2.1
  have v6' := F6.1
  have G6 := G5.trans F6
  have z6:A8 n2 j6=some (.c (.l [sb me, sb ta, .sl q 0 1 1 false 2, .str 0 0]) false none) := (F6.2.2.1 n2 (by omega)).trans ((F5.2.2.1 n2 (by omega)).trans ((F4.2.2.1 n2 (by omega)).trans y3))
  have w6:A8 n j6=some (.c (.l [.str 0 0, .str 0 0, .nil .sl, .str 0 0]) false none) := (F6.2.2.1 n (by omega)).trans ((F5.2.2.1 n (by omega)).trans ((F4.2.2.1 n (by omega)).trans ((F3.2.2.1 n (by omega)).trans ((F2.2.2.1 n (by omega)).trans y1))))
  obtain ⟨j7, j7e⟩:∃ x, Af n2 j6 (some (.c (.l [sb me, sb ta, .sl q 0 1 1 false 2, sb dat]) false none))=x := ⟨_, rfl⟩
  have G7:Fr h n j7 n6 _ := j7e ▸ G6.set (by omega) (by omega) _
  have y7:A8 n2 j7=some (.c (.l [sb me, sb ta, .sl q 0 1 1 false 2, sb dat]) false none) := by rw [←j7e]; exact A6 _ _ _
  have w7:A8 n j7=some (.c (.l [.str 0 0, .str 0 0, .nil .sl, .str 0 0]) false none) := by rw [←j7e, A7 _ _ (K4.ne_of_lt (by omega)).symm]; exact w6
  have s7:∀ κ:Heap->R, Bb (.ptr n2 3) (sb dat) j6 κ=κ j7 := fun κ => (DB j6 n2 3 _ κ).trans (by rw [z6, st4_3, j7e])
  obtain ⟨j8, j8e⟩:∃ x, Af n j7 (some (.c (.l [sb me, sb ta, .sl q 0 1 1 false 2, sb dat]) false none))=x := ⟨_, rfl⟩
  have G8:Fr h n j8 n6 _ := j8e ▸ G7.set (Nat.le_refl _) (by omega) _
  have y8:A8 n j8=some (.c (.l [sb me, sb ta, .sl q 0 1 1 false 2, sb dat]) false none) := by rw [←j8e]; exact A6 _ _ _
  have s8:∀ κ:Heap->R, Bn 4 (.ptr n 0) (.agg [sb me, sb ta, .sl q 0 1 1 false 2, sb dat]) j7 κ=κ j8 := fun κ => (st4_all w7 κ).trans (by rw [j8e])
  have es:∀ κ:V->R, Cw 1 (.sl bp o N N ex 1) (some (.int .i64 T)) none κ=κ (.sl bp (o+T) (N - T) (N - T) ex 1) := fun κ => ST hT (Nat.le_refl _) (by omega) κ
  have ec:∀ κ:V->R, Ir 4 (.ptr n 0) j8 κ=κ (.agg [sb me, sb ta, .sl q 0 1 1 false 2, sb dat]) := fun κ => (Iq 4 n 0 _ κ).trans (by rw [y8]; rfl)
  have el2:∀ κ:V->R, Lo (some (.c (.l [.bool bb, .int .i64 kk]) false none)) 2 0 κ=κ (.agg [.bool bb, .int .i64 kk]) := fun κ => rfl
  refine ⟨j8, n6, q, ?_, G8⟩
  rw [call2_at, show C5 ⟨.d0, .d2, .d4⟩ tab=some x36 from rfl, x36]
  simp (config := {maxSteps := 3000000}) (disch := omega) only [qa,g0,g1,g2,g3,g4,g5,g6,g7,g8,g9,BC,BF,C0,BR,BI,BK,BM,BY,BT,BU,w0,w1,w2,w3,w4,w5,w6,w7,w8,w9,BD,BB,BS,BP,BV,BQ,BH,BO,BL,BN,Mk,Nat.reduceAdd,Nat.reduceSub,Nat.reduceMul,Nat.reduceMod,Nat.reduceDiv,Q0,U,en3,j1e,m1,e2,jze,s3,y3,e4,jye,s5,y5,el2,m5,es,e6,s7,y7,ldnO_4,s8,ec,Am,Av,AN,AP,AO,AQ]
abbrev zrq:List V := [.str 0 0, .str 0 0, .nil .sl, .str 0 0]
theorem readE {m:Nat} {bv:V} {h:Heap} {n:K4} (hln:∀ κ:V->R, B3 bv κ=κ (.int .i64 0)) (hn:n.toN<57000) :
    ∃ h' n', Ar tab (m+9) ⟨.d0, .d3, .d13⟩ [bv] h n = .rv (.tup [.agg zrq, .int .i64 0, .int .i64 11]) h' n'∧Fr h n h' n' 2 := by
  have u1 := K4.up_toN (p := n) (by omega)
  have u2 := K4.up_toN (p := n.up) (by omega)
  obtain ⟨j1, j1e⟩:∃ x, Af n h (some (.c (.l [.str 0 0, .str 0 0, .nil .sl, .str 0 0]) false none))=x := ⟨_, rfl⟩
  have F1:Fr h n j1 n.up 1 := j1e ▸ Fr.put (by omega) _
  have y1:A8 n j1=some (.c (.l [.str 0 0, .str 0 0, .nil .sl, .str 0 0]) false none) := by rw [←j1e]; exact A6 _ _ _
  obtain ⟨j2, j2e⟩:∃ x, Af n.up j1 (some (.c (.l [.str 0 0, .str 0 0, .nil .sl, .str 0 0, .bool false]) false none))=x := ⟨_, rfl⟩
  have F2:Fr j1 n.up j2 n.up.up 1 := j2e ▸ Fr.put (by omega) _
  have y2:A8 n j2=some (.c (.l [.str 0 0, .str 0 0, .nil .sl, .str 0 0]) false none) := (F2.2.2.1 n (by omega)).trans y1
  obtain ⟨j3, j3e⟩:∃ x, Af n j2 (some (.c (.l [.str 0 0, .str 0 0, .nil .sl, .str 0 0]) false none))=x := ⟨_, rfl⟩
  have y3:A8 n j3=some (.c (.l [.str 0 0, .str 0 0, .nil .sl, .str 0 0]) false none) := by rw [←j3e]; exact A6 _ _ _
  have s3:∀ κ:Heap->R, Bn 4 (.ptr n 0) (.agg [.str 0 0, .str 0 0, .nil .sl, .str 0 0]) j2 κ=κ j3 := fun κ => (st4_all y2 κ).trans (by rw [j3e])
  have ec:∀ κ:V->R, Ir 4 (.ptr n 0) j3 κ=κ (.agg [.str 0 0, .str 0 0, .nil .sl, .str 0 0]) := fun κ => (Iq 4 n 0 _ κ).trans (by rw [y3]; rfl)
  refine ⟨j3, n.up.up, ?_, j3e ▸ (F1.trans F2).set (Nat.le_refl _) (by omega) _⟩
  rw [call2_at, show C5 ⟨.d0, .d3, .d13⟩ tab=some x61 from rfl, x61_L, x61L]
  simp (config := {maxSteps := 3000000}) (disch := omega) only [qa,g0,g1,g2,g3,g4,g5,g6,g7,g8,g9,BC,BF,C0,BR,BI,BK,BM,BY,BT,BU,w0,w1,w2,w3,w4,w5,w6,w7,w8,w9,BD,BB,BS,BP,BV,BQ,BH,BO,BL,BN,Mk,Nat.reduceAdd,Nat.reduceSub,Nat.reduceMul,Nat.reduceMod,Nat.reduceDiv,Q0,U,en3,j1e,j2e,hln,Am,Av,AN,AP,AO,AQ]
  rw [Cu]
  unfold heL
  simp (config := {maxSteps := 3000000}) (disch := omega) only [qa,g0,g1,g2,g3,g4,g5,g6,g7,g8,g9,BC,BF,C0,BR,BI,BK,BM,BY,BT,BU,w0,w1,w2,w3,w4,w5,w6,w7,w8,w9,BD,BB,BS,BP,BV,BQ,BH,BO,BL,BN,Mk,Nat.reduceAdd,Nat.reduceSub,Nat.reduceMul,Nat.reduceMod,Nat.reduceDiv,Q0,U,hln,s3,ec,Am,Av,AN,AP,AO,AQ]
theorem nextE {m:Nat} {mp:K4} {bv:V} {h:Heap} {n:K4} (hm:A8 mp h=some (.c (.l [bv, .int .i64 0]) false none)) (hmn:mp.toN<n.toN) (hln:∀ κ:V->R, B3 bv κ=κ (.int .i64 0)) (hn:n.toN<55000) :
    ∃ h' n', Ar tab (m+10) ⟨.d0, .d2, .d4⟩ [.ptr mp 0] h n = .rv (.tup [.agg zrq, .int .i64 0, .int .i64 11]) h' n'∧Fr h n h' n' 4 := by
  have u1 := K4.up_toN (p := n) (by omega)
  obtain ⟨j1, j1e⟩:∃ x, Af n h (some (.c (.l [.str 0 0, .str 0 0, .nil .sl, .str 0 0]) false none))=x := ⟨_, rfl⟩
  have F1:Fr h n j1 n.up 1 := j1e ▸ Fr.put (by omega) _
  have y1:A8 n j1=some (.c (.l [.str 0 0, .str 0 0, .nil .sl, .str 0 0]) false none) := by rw [←j1e]; exact A6 _ _ _
  have m1:A8 mp j1=some (.c (.l [bv, .int .i64 0]) false none) := (F1.2.2.1 mp hmn).trans hm
  obtain ⟨j2, n2, e2, F2⟩ := readE (m := m) (bv := bv) (h := j1) (n := n.up) hln (by omega)
  have v2 := F2.2.1
  have v2' := F2.1
  have u2 := K4.up_toN (p := n2) (by omega)
  have y2:A8 n j2=some (.c (.l [.str 0 0, .str 0 0, .nil .sl, .str 0 0]) false none) := (F2.2.2.1 n (by omega)).trans y1
  obtain ⟨jz, jze⟩:∃ x, Af n2 j2 (some (.c (.l [.str 0 0, .str 0 0, .nil .sl, .str 0 0]) false none))=x := ⟨_, rfl⟩
  have Fz:Fr j2 n2 jz n2.up 1 := jze ▸ Fr.put (by omega) _
  have yz:A8 n2 jz=some (.c (.l [.str 0 0, .str 0 0, .nil .sl, .str 0 0]) false none) := by rw [←jze]; exact A6 _ _ _
  obtain ⟨j3, j3e⟩:∃ x, Af n2 jz (some (.c (.l [.str 0 0, .str 0 0, .nil .sl, .str 0 0]) false none))=x := ⟨_, rfl⟩
  have F3:Fr j2 n2 j3 n2.up 1 := j3e ▸ Fz.set (Nat.le_refl _) (by omega) _
  have s3:∀ κ:Heap->R, Bn 4 (.ptr n2 0) (.agg [.str 0 0, .str 0 0, .nil .sl, .str 0 0]) jz κ=κ j3 := fun κ => (st4_all yz κ).trans (by rw [j3e])
  have y3:A8 n j3=some (.c (.l [.str 0 0, .str 0 0, .nil .sl, .str 0 0]) false none) := (F3.2.2.1 n (by omega)).trans y2
  obtain ⟨j4, j4e⟩:∃ x, Af n j3 (some (.c (.l [.str 0 0, .str 0 0, .nil .sl, .str 0 0]) false none))=x := ⟨_, rfl⟩
  have y4:A8 n j4=some (.c (.l [.str 0 0, .str 0 0, .nil .sl, .str 0 0]) false none) := by rw [←j4e]; exact A6 _ _ _
  have s4:∀ κ:Heap->R, Bn 4 (.ptr n 0) (.agg [.str 0 0, .str 0 0, .nil .sl, .str 0 0]) j3 κ=κ j4 := fun κ => (st4_all y3 κ).trans (by rw [j4e])
  have ec:∀ κ:V->R, Ir 4 (.ptr n 0) j4 κ=κ (.agg [.str 0 0, .str 0 0, .nil .sl, .str 0 0]) := fun κ => (Iq 4 n 0 _ κ).trans (by rw [y4]; rfl)
  refine ⟨j4, n2.up, ?_, j4e ▸ ((F1.trans F2).trans F3).set (Nat.le_refl _) (by omega) _⟩
  rw [call2_at, show C5 ⟨.d0, .d2, .d4⟩ tab=some x36 from rfl, x36]
  simp (config := {maxSteps := 3000000}) (disch := omega) only [qa,g0,g1,g2,g3,g4,g5,g6,g7,g8,g9,BC,BF,C0,BR,BI,BK,BM,BY,BT,BU,w0,w1,w2,w3,w4,w5,w6,w7,w8,w9,BD,BB,BS,BP,BV,BQ,BH,BO,BL,BN,Mk,Nat.reduceAdd,Nat.reduceSub,Nat.reduceMul,Nat.reduceMod,Nat.reduceDiv,Q0,U,en3,j1e,m1,e2,jze,s3,s4,ec,Am,Av,AN,AP,AO,AQ]
theorem st2_0 (a b v:V) (h:Heap) (p:K4) (κ:Heap->R):NM (some (.c (.l [a, b]) false none)) h p 0 v κ=κ (Af p h (some (.c (.l [v, b]) false none))) := id rfl
theorem Next_ok {m T E C:Nat} {mp:K4} {bv bv' a b c d:V} {h:Heap} {n:K4} (hm:A8 mp h=some (.c (.l [bv, .int .i64 0]) false none)) (hmn:mp.toN<n.toN) (hE:E=0∨E=11) (hC:C≤22)
    (hnx:∃ h' n', Ar tab (m+10) ⟨.d0, .d2, .d4⟩ [.ptr mp 0] (Af n h (some (.c (.l zrq) false none))) n.up = .rv (.tup [.agg [a, b, c, d], .int .i64 T, .int .i64 E]) h' n'∧Fr (Af n h (some (.c (.l zrq) false none))) n.up h' n' C)
    (hsl:∀ κ:V->R, Cw 1 bv (some (.int .i64 T)) none κ=κ bv') (hst:∀ (h:Heap) (κ:Heap->R), Bb (.ptr mp 0) bv' h κ=NM (A8 mp h) h mp 0 bv' κ) (hn:n.toN<54000) :
    ∃ h' n', Ar tab (m+11) ⟨.d0, .d0, .d13⟩ [.ptr mp 0] h n = .rv (.tup [.agg [a, b, c, d], .int .i64 E]) h' n'∧A8 mp h'=some (.c (.l [bv', .int .i64 0]) false none)∧n.toN≤n'.toN∧n'.toN≤n.toN+24∧(∀ x:K4, x.toN<n.toN->x≠mp->A8 x h'=A8 x h)∧(Bc h n->Bc h' n') := by
  have u1 := K4.up_toN (p := n) (by omega)
  obtain ⟨j1, j1e⟩:∃ x, Af n h (some (.c (.l [.str 0 0, .str 0 0, .nil .sl, .str 0 0]) false none))=x := ⟨_, rfl⟩
  have F1:Fr h n j1 n.up 1 := j1e ▸ Fr.put (by omega) _
  have y1:A8 n j1=some (.c (.l [.str 0 0, .str 0 0, .nil .sl, .str 0 0]) false none) := by rw [←j1e]; exact A6 _ _ _
  have m1:A8 mp j1=some (.c (.l [bv, .int .i64 0]) false none) := (F1.2.2.1 mp hmn).trans hm
  obtain ⟨j2, n2, e2, F2⟩ := hnx
  rw [show Af n h (some (.c (.l zrq) false none))=j1 from j1e] at e2 F2
  have v2 := F2.2.1
  have v2' := F2.1
  have u2 := K4.up_toN (p := n2) (by omega)
  obtain ⟨jz, jze⟩:∃ x, Af n2 j2 (some (.c (.l [.str 0 0, .str 0 0, .nil .sl, .str 0 0]) false none))=x := ⟨_, rfl⟩
  have Fz:Fr j2 n2 jz n2.up 1 := jze ▸ Fr.put (by omega) _
  have yz:A8 n2 jz=some (.c (.l [.str 0 0, .str 0 0, .nil .sl, .str 0 0]) false none) := by rw [←jze]; exact A6 _ _ _
  obtain ⟨j3, j3e⟩:∃ x, Af n2 jz (some (.c (.l [a, b, c, d]) false none))=x := ⟨_, rfl⟩
  have F3:Fr j2 n2 j3 n2.up 1 := j3e ▸ Fz.set (Nat.le_refl _) (by omega) _
  have s3:∀ κ:Heap->R, Bn 4 (.ptr n2 0) (.agg [a, b, c, d]) jz κ=κ j3 := fun κ => (st4_all yz κ).trans (by rw [j3e])
  have y3:A8 n2 j3=some (.c (.l [a, b, c, d]) false none) := by rw [←j3e]; exact A6 _ _ _
  have G3 := (F1.trans F2).trans F3
  have m3:A8 mp j3=some (.c (.l [bv, .int .i64 0]) false none) := (G3.2.2.1 mp hmn).trans hm
  have z3:A8 n j3=some (.c (.l [.str 0 0, .str 0 0, .nil .sl, .str 0 0]) false none) := (F3.2.2.1 n (by omega)).trans ((F2.2.2.1 n (by omega)).trans y1)
  obtain ⟨j4, j4e⟩:∃ x, Af mp j3 (some (.c (.l [bv', .int .i64 0]) false none))=x := ⟨_, rfl⟩
  have f4:∀ q:K4, q≠mp->A8 q j4=A8 q j3 := fun q hq => by rw [←j4e]; exact A7 _ _ hq.symm
  have y4:A8 mp j4=some (.c (.l [bv', .int .i64 0]) false none) := by rw [←j4e]; exact A6 _ _ _
  have s4:∀ κ:Heap->R, Bb (.ptr mp 0) bv' j3 κ=κ j4 := fun κ => (hst j3 κ).trans (by rw [m3, st2_0, j4e])
  have z4:A8 n j4=some (.c (.l [.str 0 0, .str 0 0, .nil .sl, .str 0 0]) false none) := (f4 n (K4.ne_of_lt hmn).symm).trans z3
  have y4':A8 n2 j4=some (.c (.l [a, b, c, d]) false none) := (f4 n2 (K4.ne_of_lt (by omega)).symm).trans y3
  obtain ⟨j5, j5e⟩:∃ x, Af n j4 (some (.c (.l [a, b, c, d]) false none))=x := ⟨_, rfl⟩
  have y5:A8 n j5=some (.c (.l [a, b, c, d]) false none) := by rw [←j5e]; exact A6 _ _ _
  have s5:∀ κ:Heap->R, Bn 4 (.ptr n 0) (.agg [a, b, c, d]) j4 κ=κ j5 := fun κ => (st4_all z4 κ).trans (by rw [j5e])
  have ec:∀ κ:V->R, Ir 4 (.ptr n 0) j5 κ=κ (.agg [a, b, c, d]) := fun κ => (Iq 4 n 0 _ κ).trans (by rw [y5]; rfl)
  refine ⟨j5, n2.up, ?_, by rw [←j5e, A7 _ _ (K4.ne_of_lt hmn).symm]; exact y4, by omega, by omega, fun x hx hxm => ?_, fun hf q hq => ?_⟩
  · rw [call2_at, show C5 ⟨.d0, .d0, .d13⟩ tab=some x13 from rfl, x13]
    rcases hE with rfl | rfl
    · simp (config := {maxSteps := 3000000}) (disch := omega) only [qa,g0,g1,g2,g3,g4,g5,g6,g7,g8,g9,BC,BF,C0,BR,BI,BK,BM,BY,BT,BU,w0,w1,w2,w3,w4,w5,w6,w7,w8,w9,BD,BB,BS,BP,BV,BQ,BH,BO,BL,BN,Mk,Nat.reduceAdd,Nat.reduceSub,Nat.reduceMul,Nat.reduceMod,Nat.reduceDiv,Q0,U,en3,j1e,m1,e2,jze,s3,m3,hsl,s4,y4',ldnO_4,s5,ec,Am,Av,AN,AP,AO,AQ]
    · simp (config := {maxSteps := 3000000}) (disch := omega) only [qa,g0,g1,g2,g3,g4,g5,g6,g7,g8,g9,BC,BF,C0,BR,BI,BK,BM,BY,BT,BU,w0,w1,w2,w3,w4,w5,w6,w7,w8,w9,BD,BB,BS,BP,BV,BQ,BH,BO,BL,BN,Mk,Nat.reduceAdd,Nat.reduceSub,Nat.reduceMul,Nat.reduceMod,Nat.reduceDiv,Q0,U,en3,j1e,m1,e2,jze,s3,m3,hsl,s4,y4',ldnO_4,s5,ec,Am,Av,AN,AP,AO,AQ]
  · rw [←j5e, A7 _ _ (K4.ne_of_lt hx).symm, f4 x hxm]; exact G3.2.2.1 x hx
  · rw [←j5e, A7 _ _ (K4.ne_of_lt (by omega)), f4 q (K4.ne_of_lt (by omega)).symm]; exact G3.2.2.2 hf q hq
theorem new_ok {m:Nat} {h:Heap} {n:K4} (hn:n.toN<60000):∃ h', Ar tab (m+1) ⟨.d0, .d0, .d11⟩ [] h n = .rv (.ptr n 0) h' n.up∧A8 n h'=some (.c (.l [.nil .sl, .int .i64 0]) false none)∧Fr h n h' n.up 1 := by
  have u1 := K4.up_toN (p := n) (by omega)
  refine ⟨Af n h (some (.c (.l [.nil .sl, .int .i64 0]) false none)), ?_, A6 _ _ _, Fr.put (by omega) _⟩
  rw [call2_at, show C5 ⟨.d0, .d0, .d11⟩ tab=some x11 from rfl, x11]
  simp (config := {maxSteps := 3000000}) (disch := omega) only [qa,g0,g1,g2,g3,g4,g5,g6,g7,g8,g9,BC,BF,C0,BR,BI,BK,BM,BY,BT,BU,w0,w1,w2,w3,w4,w5,w6,w7,w8,w9,BD,BB,BS,BP,BV,BQ,BH,BO,BL,BN,Mk,Nat.reduceAdd,Nat.reduceSub,Nat.reduceMul,Nat.reduceMod,Nat.reduceDiv,Q0,U,en2]
theorem feed_ok {m lo:Nat} {mp:K4} {bv:V} {l:List UInt8} {h:Heap} {n:K4} (hm:A8 mp h=some (.c (.l [.nil .sl, .int .i64 0]) false none)) (hmn:mp.toN<lo) (hlo:lo≤n.toN) (hs:JF bv l h) (hl:l.length<900000000) (hn:n.toN<60000) :
    ∃ h' n' bv', Ar tab (m+1) ⟨.d0, .d0, .d12⟩ [.ptr mp 0, bv] h n = .rv (.tup []) h' n'∧A8 mp h'=some (.c (.l [bv', .int .i64 0]) false none)∧E8 lo n' h' bv' l∧n.toN≤n'.toN∧n'.toN≤n.toN+1∧(∀ x:K4, x.toN<lo->x≠mp->A8 x h'=A8 x h)∧(Bc h n->Bc h' n') := by
  obtain ⟨c', j1, n1, e1, O1, b1, b2, f1, r1⟩ := OX (lo := lo) (n := n) (c := .nil .sl) (l := []) E8.nil hs hlo (by show 0+_≤_; omega) (by omega)
  rw [List.nil_append] at O1
  have m1:A8 mp j1=some (.c (.l [.nil .sl, .int .i64 0]) false none) := (f1 mp hmn).trans hm
  obtain ⟨j2, j2e⟩:∃ x, Af mp j1 (some (.c (.l [c', .int .i64 0]) false none))=x := ⟨_, rfl⟩
  have f2:∀ q:K4, q≠mp->A8 q j2=A8 q j1 := fun q hq => by rw [←j2e]; exact A7 _ _ hq.symm
  have s2:∀ κ:Heap->R, Bb (.ptr mp 0) c' j1 κ=κ j2 := fun κ => by
    have e:Bb (.ptr mp 0) c' j1 κ=I4 j1 mp 0 c' κ := by
      rcases O1 with ⟨rfl, _⟩ | ⟨p, ex, pr, rfl, _⟩ <;> rfl
    rw [e, DB, m1, st2_0, j2e]
  refine ⟨j2, n1, c', ?_, by rw [←j2e]; exact A6 _ _ _, O1.frame (Nat.le_refl _) fun q hq _ => f2 q (K4.ne_of_lt (by omega)).symm, b1, b2, fun x hx hxm => (f2 x hxm).trans (f1 x hx), fun hf q hq => (f2 q (K4.ne_of_lt (by omega)).symm).trans (r1 hf q hq)⟩
  rw [call2_at, show C5 ⟨.d0, .d0, .d12⟩ tab=some x12 from rfl, x12]
  simp (config := {maxSteps := 3000000}) (disch := omega) only [qa,g0,g1,g2,g3,g4,g5,g6,g7,g8,g9,BC,BF,C0,BR,BI,BK,BM,BY,BT,BU,w0,w1,w2,w3,w4,w5,w6,w7,w8,w9,BD,BB,BS,BP,BV,BQ,BH,BO,BL,BN,Mk,Nat.reduceAdd,Nat.reduceSub,Nat.reduceMul,Nat.reduceMod,Nat.reduceDiv,Q0,U,en1,hm,e1,s2,Am,Av,AN,AP,AO,AQ]
theorem left_ok {m:Nat} {mp:K4} {bv:V} {h:Heap} {n:K4} (hm:A8 mp h=some (.c (.l [bv, .int .i64 0]) false none)) (hln:∀ κ:V->R, B3 bv κ=κ (.int .i64 0)):Ar tab (m+1) ⟨.d0, .d0, .d14⟩ [.ptr mp 0] h n = .rv (.int .i64 0) h n := by
  rw [call2_at, show C5 ⟨.d0, .d0, .d14⟩ tab=some x14 from rfl, x14]
  simp (config := {maxSteps := 3000000}) (disch := omega) only [qa,g0,g1,g2,g3,g4,g5,g6,g7,g8,g9,BC,BF,C0,BR,BI,BK,BM,BY,BT,BU,w0,w1,w2,w3,w4,w5,w6,w7,w8,w9,BD,BB,BS,BP,BV,BQ,BH,BO,BL,BN,Mk,Nat.reduceAdd,Nat.reduceSub,Nat.reduceMul,Nat.reduceMod,Nat.reduceDiv,Q0,U,en3,hm,hln,Am,Av,AN,AP,AO,AQ]
theorem rn_at {b:K4} {j:D} {h:Heap} {ob:Ob} (hg:A8 (b.pl j) h=some ob) (F:Heap->R) (κ:V->R):rnX b j h F κ=AB (F (Af (b.pl j) AJ (some ob))) κ := by
  show b.at j (fun r => Bt r h fun x => VU x fun ob => BW r AJ (some ob) fun hx => AB (F hx) κ)=_
  rw [K4.at_eq, Bm, show (⟨b.a, b.b, b.c, j⟩:K4)=b.pl j from rfl, hg]
  show BW (b.pl j) AJ (some ob) (fun hx => AB (F hx) κ)=_
  rw [BZ, B6]
theorem rem_i {a b:Nat} (ha:a<9223372036854775808) (hb:b<9223372036854775808) (h0:0<b) (κ:V->R):NH (.int .i64 a) (.int .i64 b) κ=κ (.int .i64 (a % b)) := Ta (k := .i64) ha hb h0 κ
theorem quo_i {a b:Nat} (ha:a<9223372036854775808) (hb:b<9223372036854775808) (h0:0<b) (κ:V->R):M6 (.int .i64 a) (.int .i64 b) κ=κ (.int .i64 (a / b)) := Sf (k := .i64) ha hb h0 κ
def decB (k:Nat):List UInt8 := if k<10 then [UInt8.ofNat (48+k)] else [UInt8.ofNat (48+k / 10), UInt8.ofNat (48+k % 10)]
theorem dec1_ok {m k:Nat} {h:Heap} {n:K4} (hk:k<10) (hn:n.toN<60000) :
    ∃ h', Ar tab (m+1) ⟨.d0, .d0, .d8⟩ [.int .i64 k] h n = .rv (sb [UInt8.ofNat (48+k)]) h' n.up∧Fr h n h' n.up 1 := by
  obtain ⟨j1, j1e⟩:∃ x, Af n h (some (.c (cb [UInt8.ofNat (48+k)]) false none))=x := ⟨_, rfl⟩
  have y1:A8 n j1=some (.c (cb [UInt8.ofNat (48+k)]) false none) := by rw [←j1e]; exact A6 _ _ _
  have ec:∀ κ:V->R, Fg .u8 (.int .i64 (48+k)) κ=κ (.int .u8 (48+k)) := fun κ => (QS (k := .u8) (j := .i64) (by show 48+k<9223372036854775808; omega) κ).trans (by rw [show (48+k) % Mk IntKind.u8=48+k from Nat.mod_eq_of_lt (by show 48+k<256; omega)])
  have eb:∀ κ:KV, CN true 1 1 [.int .u8 (48+k)] h n κ=κ (.sl n 0 1 1 true 1) j1 n.up := fun κ => (QZ (by omega) (by omega) h κ).trans (by rw [j1e])
  have es:∀ κ:V->R, C4 (.sl n 0 1 1 true 1) j1 κ=κ (sb [UInt8.ofNat (48+k)]) := fun κ => (E5 y1 (by show 0+1≤1; omega) κ).trans rfl
  have ep:∀ κ:List V->R, Ag 0 (.int .u8 (48+k)) [iB 0] κ=κ [.int .u8 (48+k)] := fun κ => rfl
  have ep':∀ κ:List V->R, Ag 0 (.int .u8 (48+k)) [.int .u8 0] κ=κ [.int .u8 (48+k)] := fun κ => rfl
  refine ⟨j1, ?_, j1e ▸ Fr.put (by omega) _⟩
  rw [call2_at, show C5 ⟨.d0, .d0, .d8⟩ tab=some x8 from rfl, x8]
  simp (config := {maxSteps := 3000000}) (disch := omega) only [qa,g0,g1,g2,g3,g4,g5,g6,g7,g8,g9,BC,BF,C0,BR,BI,BK,BM,BY,BT,BU,w0,w1,w2,w3,w4,w5,w6,w7,w8,w9,BD,BB,BS,BP,BV,BQ,BH,BO,BL,BN,Mk,Nat.reduceAdd,Nat.reduceSub,Nat.reduceMul,Nat.reduceMod,Nat.reduceDiv,Q0,U,en3,ec,ep,ep',eb,es,Am,Av,AN,AP,AO,AQ]
theorem dec2_ok {m k:Nat} {h:Heap} {n:K4} (hk:10≤k) (hk2:k<100) (hn:n.toN<50000) (hf:Bc h n) :
    ∃ h' n', Ar tab (m+2) ⟨.d0, .d0, .d8⟩ [.int .i64 k] h n = .rv (sb [UInt8.ofNat (48+k / 10), UInt8.ofNat (48+k % 10)]) h' n'∧Fr h n h' n' 40 := by
  have v1 := K4.up16_toN (p := n) (by omega)
  have v2 := K4.up16_toN (p := n.up16) (by omega)
  have v3 := K4.pl_toN (p := n) (by omega) .d0
  have hd0:D.d0.toN=0 := rfl
  have u1 := K4.up_toN (p := n.up16.up16) (by omega)
  obtain ⟨j1, e1, F1⟩ := dec1_ok (m := m) (k := k / 10) (h := h) (n := n.up16.up16) (by omega) (by omega)
  have z0:A8 (n.up16.pl .d0) h=none := hf _ (by omega)
  have z1:A8 (n.up16.pl .d0) j1=none := (F1.2.2.1 _ (by omega)).trans z0
  have hr:k % 10<10 := Nat.mod_lt _ (by decide)
  obtain ⟨j2, j2e⟩:∃ x, Af (n.up16.pl .d0) j1 (some (.c (cb [UInt8.ofNat (48+k % 10)]) false none))=x := ⟨_, rfl⟩
  have f2:∀ q:K4, q≠n.up16.pl .d0->A8 q j2=A8 q j1 := fun q hq => by rw [←j2e]; exact A7 _ _ hq.symm
  have y2:A8 (n.up16.pl .d0) j2=some (.c (cb [UInt8.ofNat (48+k % 10)]) false none) := by rw [←j2e]; exact A6 _ _ _
  have ec:∀ κ:V->R, Fg .u8 (.int .i64 (48+k % 10)) κ=κ (.int .u8 (48+k % 10)) := fun κ => (QS (k := .u8) (j := .i64) (by show 48+k % 10<9223372036854775808; omega) κ).trans (by rw [show (48+k % 10) % Mk IntKind.u8=48+k % 10 from Nat.mod_eq_of_lt (by show 48+k % 10<256; omega)])
  have eb:∀ κ:KV, CN true 1 1 [.int .u8 (48+k % 10)] j1 (n.up16.pl .d0) κ=κ (.sl (n.up16.pl .d0) 0 1 1 true 1) j2 (n.up16.pl .d0).up := fun κ => (QZ (by omega) (by omega) j1 κ).trans (by rw [j2e])
  have es:∀ κ:V->R, C4 (.sl (n.up16.pl .d0) 0 1 1 true 1) (Af (n.up16.pl .d0) AJ (some (.c (cb [UInt8.ofNat (48+k % 10)]) false none))) κ=κ (sb [UInt8.ofNat (48+k % 10)]) := fun κ => (E5 (A6 _ _ _) (by show 0+1≤1; omega) κ).trans rfl
  have ern := fun F κ => rn_at (b := n.up16) (j := .d0) y2 F κ
  have ep':∀ κ:List V->R, Ag 0 (.int .u8 (48+k % 10)) [.int .u8 0] κ=κ [.int .u8 (48+k % 10)] := fun κ => rfl
  have ep:∀ κ:List V->R, Ag 0 (.int .u8 (48+k % 10)) [iB 0] κ=κ [.int .u8 (48+k % 10)] := fun κ => rfl
  have ea:∀ κ:V->R, Ap (sb [UInt8.ofNat (48+k / 10)]) (sb [UInt8.ofNat (48+k % 10)]) κ=κ (sb [UInt8.ofNat (48+k / 10), UInt8.ofNat (48+k % 10)]) := fun κ => Eu (a := [_]) (b := [_]) (by show 1+1≤_; omega) κ
  refine ⟨j2, n.up16.up16.up, ?_, by omega, by omega, fun x hx => (f2 x (K4.ne_of_lt (by omega))).trans (F1.2.2.1 x (by omega)), fun hf q hq => (f2 q (K4.ne_of_lt (by omega)).symm).trans (F1.2.2.2 (fun r hr => hf r (by omega)) q hq)⟩
  rw [call2_at, show C5 ⟨.d0, .d0, .d8⟩ tab=some x8 from rfl, x8]
  simp (config := {maxSteps := 3000000}) (disch := omega) only [qa,g0,g1,g2,g3,g4,g5,g6,g7,g8,g9,BC,BF,C0,BR,BI,BK,BM,BY,BT,BU,w0,w1,w2,w3,w4,w5,w6,w7,w8,w9,BD,BB,BS,BP,BV,BQ,BH,BO,BL,BN,Mk,Nat.reduceAdd,Nat.reduceSub,Nat.reduceMul,Nat.reduceMod,Nat.reduceDiv,Q0,U,en3,rem_i,quo_i,ec,z0,e1,z1,ep,ep',eb,ern,es,ea,Am,Av,AN,AP,AO,AQ]
theorem dec_ok {m k:Nat} {h:Heap} {n:K4} (hk:k<100) (hn:n.toN<50000) (hf:Bc h n) :
    ∃ h' n', Ar tab (m+2) ⟨.d0, .d0, .d8⟩ [.int .i64 k] h n = .rv (sb (decB k)) h' n'∧Fr h n h' n' 40 := by
  unfold decB
  rcases Nat.lt_or_ge k 10 with hx | hx
  · rw [if_pos hx]
    obtain ⟨h', e, F⟩ := dec1_ok (m := m+1) (h := h) (n := n) hx (by omega)
    exact ⟨h', n.up, e, F.1, by have := F.2.1; omega, F.2.2.1, F.2.2.2⟩
  · rw [if_neg (by omega)]
    exact dec2_ok hx hk hn hf
def hdC (k:Nat):UInt8 := if k<10 then UInt8.ofNat (48+k) else UInt8.ofNat (87+k)
def hexB (k:Nat):List UInt8 := if k<16 then [hdC k] else [hdC (k / 16), hdC (k % 16)]
theorem hd_ix {k:Nat} (hk:k<16) (κ:V->R):AZ (.str 16 136107713667768957684761770045455085872) (.int .i64 k) κ=κ (.int .u8 (hdC k).toNat) := by
  rcases (by omega:k=0∨k=1∨k=2∨k=3∨k=4∨k=5∨k=6∨k=7∨k=8∨k=9∨k=10∨k=11∨k=12∨k=13∨k=14∨k=15) with h | h | h | h | h | h | h | h | h | h | h | h | h | h | h | h <;> subst h <;> rfl
theorem ofN (x:UInt8):UInt8.ofNat x.toNat=x := UInt8.ofNat_toNat
theorem hex1_ok {m k:Nat} {h:Heap} {n:K4} (hk:k<16) (hn:n.toN<60000) :
    ∃ h', Ar tab (m+1) ⟨.d0, .d2, .d1⟩ [.int .i64 k] h n = .rv (sb [hdC k]) h' n.up∧Fr h n h' n.up 1 := by
  obtain ⟨j1, j1e⟩:∃ x, Af n h (some (.c (cb [hdC k]) false none))=x := ⟨_, rfl⟩
  have y1:A8 n j1=some (.c (cb [hdC k]) false none) := by rw [←j1e]; exact A6 _ _ _
  have hm:k % 16=k := Nat.mod_eq_of_lt hk
  have ei := fun κ => hd_ix hk κ
  have eb:∀ κ:KV, CN true 1 1 [.int .u8 (hdC k).toNat] h n κ=κ (.sl n 0 1 1 true 1) j1 n.up := fun κ => (QZ (hdC k).toNat_lt (by omega) h κ).trans (by rw [ofN, j1e])
  have es:∀ κ:V->R, C4 (.sl n 0 1 1 true 1) j1 κ=κ (sb [hdC k]) := fun κ => (E5 y1 (by show 0+1≤1; omega) κ).trans rfl
  have ep:∀ κ:List V->R, Ag 0 (.int .u8 (hdC k).toNat) [iB 0] κ=κ [.int .u8 (hdC k).toNat] := fun κ => rfl
  have ep':∀ κ:List V->R, Ag 0 (.int .u8 (hdC k).toNat) [.int .u8 0] κ=κ [.int .u8 (hdC k).toNat] := fun κ => rfl
  refine ⟨j1, ?_, j1e ▸ Fr.put (by omega) _⟩
  rw [call2_at, show C5 ⟨.d0, .d2, .d1⟩ tab=some x33 from rfl, x33]
  simp (config := {maxSteps := 3000000}) (disch := omega) only [qa,g0,g1,g2,g3,g4,g5,g6,g7,g8,g9,BC,BF,C0,BR,BI,BK,BM,BY,BT,BU,w0,w1,w2,w3,w4,w5,w6,w7,w8,w9,BD,BB,BS,BP,BV,BQ,BH,BO,BL,BN,Mk,Nat.reduceAdd,Nat.reduceSub,Nat.reduceMul,Nat.reduceMod,Nat.reduceDiv,Q0,U,en3,rem_i,quo_i,hm,ei,ep,ep',eb,es,Am,Av,AN,AP,AO,AQ]
theorem hex2_ok {m k:Nat} {h:Heap} {n:K4} (hk:16≤k) (hk2:k<256) (hn:n.toN<50000) (hf:Bc h n) :
    ∃ h' n', Ar tab (m+2) ⟨.d0, .d2, .d1⟩ [.int .i64 k] h n = .rv (sb [hdC (k / 16), hdC (k % 16)]) h' n'∧Fr h n h' n' 40 := by
  have v1 := K4.up16_toN (p := n) (by omega)
  have v2 := K4.up16_toN (p := n.up16) (by omega)
  have v3 := K4.pl_toN (p := n) (by omega) .d0
  have hd0:D.d0.toN=0 := rfl
  have u1 := K4.up_toN (p := n.up16.up16) (by omega)
  obtain ⟨j1, e1, F1⟩ := hex1_ok (m := m) (k := k / 16) (h := h) (n := n.up16.up16) (by omega) (by omega)
  have z0:A8 (n.up16.pl .d0) h=none := hf _ (by omega)
  have z1:A8 (n.up16.pl .d0) j1=none := (F1.2.2.1 _ (by omega)).trans z0
  have hr:k % 16<16 := Nat.mod_lt _ (by decide)
  have ei := fun κ => hd_ix hr κ
  obtain ⟨j2, j2e⟩:∃ x, Af (n.up16.pl .d0) j1 (some (.c (cb [hdC (k % 16)]) false none))=x := ⟨_, rfl⟩
  have f2:∀ q:K4, q≠n.up16.pl .d0->A8 q j2=A8 q j1 := fun q hq => by rw [←j2e]; exact A7 _ _ hq.symm
  have y2:A8 (n.up16.pl .d0) j2=some (.c (cb [hdC (k % 16)]) false none) := by rw [←j2e]; exact A6 _ _ _
  have eb:∀ κ:KV, CN true 1 1 [.int .u8 (hdC (k % 16)).toNat] j1 (n.up16.pl .d0) κ=κ (.sl (n.up16.pl .d0) 0 1 1 true 1) j2 (n.up16.pl .d0).up := fun κ => (QZ (hdC (k % 16)).toNat_lt (by omega) j1 κ).trans (by rw [ofN, j2e])
  have es:∀ κ:V->R, C4 (.sl (n.up16.pl .d0) 0 1 1 true 1) (Af (n.up16.pl .d0) AJ (some (.c (cb [hdC (k % 16)]) false none))) κ=κ (sb [hdC (k % 16)]) := fun κ => (E5 (A6 _ _ _) (by show 0+1≤1; omega) κ).trans rfl
  have ern := fun F κ => rn_at (b := n.up16) (j := .d0) y2 F κ
  have ep':∀ κ:List V->R, Ag 0 (.int .u8 (hdC (k % 16)).toNat) [.int .u8 0] κ=κ [.int .u8 (hdC (k % 16)).toNat] := fun κ => rfl
  have ep:∀ κ:List V->R, Ag 0 (.int .u8 (hdC (k % 16)).toNat) [iB 0] κ=κ [.int .u8 (hdC (k % 16)).toNat] := fun κ => rfl
  have ea:∀ κ:V->R, Ap (sb [hdC (k / 16)]) (sb [hdC (k % 16)]) κ=κ (sb [hdC (k / 16), hdC (k % 16)]) := fun κ => Eu (a := [_]) (b := [_]) (by show 1+1≤_; omega) κ
  refine ⟨j2, n.up16.up16.up, ?_, by omega, by omega, fun x hx => (f2 x (K4.ne_of_lt (by omega))).trans (F1.2.2.1 x (by omega)), fun hf q hq => (f2 q (K4.ne_of_lt (by omega)).symm).trans (F1.2.2.2 (fun r hr => hf r (by omega)) q hq)⟩
  rw [call2_at, show C5 ⟨.d0, .d2, .d1⟩ tab=some x33 from rfl, x33]
  simp (config := {maxSteps := 3000000}) (disch := omega) only [qa,g0,g1,g2,g3,g4,g5,g6,g7,g8,g9,BC,BF,C0,BR,BI,BK,BM,BY,BT,BU,w0,w1,w2,w3,w4,w5,w6,w7,w8,w9,BD,BB,BS,BP,BV,BQ,BH,BO,BL,BN,Mk,Nat.reduceAdd,Nat.reduceSub,Nat.reduceMul,Nat.reduceMod,Nat.reduceDiv,Q0,U,en3,rem_i,quo_i,ei,z0,e1,z1,ep,ep',eb,ern,es,ea,Am,Av,AN,AP,AO,AQ]
theorem hex_ok {m k:Nat} {h:Heap} {n:K4} (hk:k<256) (hn:n.toN<50000) (hf:Bc h n) :
    ∃ h' n', Ar tab (m+2) ⟨.d0, .d2, .d1⟩ [.int .i64 k] h n = .rv (sb (hexB k)) h' n'∧Fr h n h' n' 40 := by
  unfold hexB
  rcases Nat.lt_or_ge k 16 with hx | hx
  · rw [if_pos hx]
    obtain ⟨h', e, F⟩ := hex1_ok (m := m+1) (h := h) (n := n) hx (by omega)
    exact ⟨h', n.up, e, F.1, by have := F.2.1; omega, F.2.2.1, F.2.2.2⟩
  · rw [if_neg (by omega)]
    exact hex2_ok hx hk hn hf
end Go.Ev.YtdgefeadbcbglaaDoor
