/- What the functions do, as equations over their texts, 2. -/
import Derived.Test.YtdgefeadbcbglaaDoorMV
import Derived.KernelRfl
namespace Go.Ev.YtdgefeadbcbglaaDoor
open Go Go.Ev
set_option linter.unusedVariables false
set_option linter.unusedSimpArgs false
noncomputable def doL (c:DZ):S->Heap->K4->R := fun t h n=>g4 t fun z1=>g1 t fun z2=>B3 z2 fun z3=>EA z1 z3 fun z4=>g0 t fun z5=>gK z4 z5 h n fun z6 h n=>gO z4 h n (fun k=>B4 z6 (.str 0 0) k) fun z7 h n=>AA z4 z7 (.bool false) fun z8=>AY z8 (Aj 1 (B0 z5 fun z9=>B3 z2 fun za=>AR z1 za fun zb=>Br (AY zb (Bl 1 z2 z1 fun zc=>Az zc h fun zd=>AR zd (iI 1) fun ze=>AY ze (w5 t z9 fun t=>.ok (.exit 1) t h n)<|Bl 1 z2 z1 fun zf=>Az zf h fun zg=>JA z9 zg fun zh=>w5 t zh fun t=>nR t h n) (w5 t z9 fun t=>nR t h n)) fun t h n=>g3 t fun zi=>mV zi fun zj=>g5 t fun zk=>mV zk fun zl=>g0 t fun zm=>mV zm fun zn=>mV zk fun zo=>AB (CB zn none (some zo) Ax) fun zp=>HN (Ai (c ⟨.d0,.d2,.d1⟩ [zl] h n) .rv) fun zq h n=>AB (Ap zq (.str 2 2573) Ax) fun zr=>AB (Ap zr zp Ax) fun zs=>AB (Ap zs (.str 2 2573) Ax) fun zt=>AB (Ap zj zt Ax) fun zu=>mV zu fun zv=>CB zm (some zk) none fun zw=>w0 t zw fun t=>w3 t zv fun t=>nR t h n) fun t h n=>g4 t fun zx=>Ap zx (iI 1) fun zy=>w4 t zy fun t=>nR t h n)<|.ok (.exit 0) t h n
noncomputable def x9L:Ent := .code en1 (fun c t h n=>Aj 0 (w2 t (.nil .sl) fun t=>w3 t (.str 0 0) fun t=>w4 t (iI 0) fun t=>Bd (doL c) t h n) fun t h n=>g3 t fun zz=>Ap zz (.str 5 43168435504) fun z10=>GW z10 h n fun z11 h n=>w2 t z11 fun t=>rT t h n) (fun t h n=>g2 t fun a0=>.rv a0 h n)
theorem x9_L:x9=x9L := rfl
def zer (k:Nat):List UInt8 := List.replicate k 0
def chsB (L:Nat):List (List UInt8×List UInt8) :=
  if L=0 then [] else if L≤5 then [(hexB L, zer L)] else if L≤6 then [(hexB 5, zer 5), (hexB 1, zer 1)] else [(hexB 5, zer 5), (hexB 1, zer 1), (hexB (L - 6), zer (L - 6))]
def oneC (k:Nat) (d:List UInt8):List UInt8 := hexB k++[13, 10]++d++[13, 10]
theorem hexB_len (k:Nat):(hexB k).length≤2 := by
  unfold hexB
  by_cases h:k<16
  · rw [if_pos h]; show 1≤2; omega
  · rw [if_neg h]; show 2≤2; omega
theorem do_step {m k i:Nat} {s out:List UInt8} {p:K4} {d5:V} {h:Heap} {n:K4} (hp:A8 p h=some (.c (.l [.int .i64 5, .int .i64 1]) false none)) (hs:0<s.length) (hl:s.length<256) (ho:out.length<5000) (hk:(i=0∧k=min s.length 5)∨(i=1∧k=min s.length 1)∨(i=2∧k=s.length)) (hn:n.toN<49000) (hf:Bc h n) :
    ∃ h' n', doL (Ar tab (m+2)) (.mk (.mk (sb s) (.sl p 0 2 2 true 1) (.nil .sl) (sb out)) (.mk (.int .i64 i) d5 Ay Ay) Q0 Q0 Q0 Q0 Q0 Q0) h n = .ok .nrm (.mk (.mk (sb (s.drop k)) (.sl p 0 2 2 true 1) (.nil .sl) (sb (out++oneC k (s.take k)))) (.mk (.int .i64 (i+1)) (.int .i64 k) Ay Ay) Q0 Q0 Q0 Q0 Q0 Q0) h' n'∧Fr h n h' n' 40 := by
  have hk1:k≤s.length := by omega
  obtain ⟨h', n', e1, F⟩ := hex_ok (m := m) (k := k) (h := h) (n := n) (by omega) (by omega) hf
  have hx := hexB_len k
  have hne:¬ s=[] := fun e => by rw [e] at hs; cases hs
  have e2 := fun κ => IN s κ
  have hd:decide (¬ s=[])=true := decide_eq_true hne
  have ln := fun κ => Fe s (by omega) κ
  have t1 := fun κ => MX (l := s) (k := k) hk1 (by omega) κ
  have t2 := fun κ => N1 (l := s) (k := k) hk1 (by omega) κ
  have lt:(s.take k).length=k := by rw [List.length_take]; omega
  have c1:∀ κ:V->R, Ap (sb (hexB k)) (.str 2 2573) κ=κ (sb (hexB k++[13, 10])) := fun κ => Eu (b := [13, 10]) (by show _+2≤_; omega) κ
  have c2:∀ κ:V->R, Ap (sb (hexB k++[13, 10])) (sb (s.take k)) κ=κ (sb (hexB k++[13, 10]++s.take k)) := fun κ => Eu (by rw [List.length_append, lt]; show _+2+_≤_; omega) κ
  have c3:∀ κ:V->R, Ap (sb (hexB k++[13, 10]++s.take k)) (.str 2 2573) κ=κ (sb (oneC k (s.take k))) := fun κ => Eu (b := [13, 10]) (by rw [List.length_append, List.length_append, lt]; show _+2+_+2≤_; omega) κ
  have c4:∀ κ:V->R, Ap (sb out) (sb (oneC k (s.take k))) κ=κ (sb (out++oneC k (s.take k))) := fun κ => Eu (by unfold oneC; simp only [List.length_append,lt,List.length_cons,List.length_nil]; omega) κ
  have mn:∀ (z:Nat), z<1000->∀ κ:V->R, JA (.int .i64 s.length) (.int .i64 z) κ=κ (.int .i64 (min s.length z)) := fun z hz κ => by
    rw [QW (by omega) (by omega), RE (by omega) (by omega)]
    rcases Nat.lt_or_ge z s.length with hc | hc
    · rw [decide_eq_true hc, show min s.length z=z by omega]; rfl
    · rw [decide_eq_false (by omega), show min s.length z=s.length by omega]; rfl
  refine ⟨h', n', ?_, F⟩
  unfold doL
  rcases hk with ⟨rfl, hk⟩ | ⟨rfl, hk⟩ | ⟨rfl, hk⟩
  · have m5 := mn 5 (by decide)
    rw [←hk] at m5
    simp (config := {maxSteps := 3000000}) (disch := omega) only [qa,g0,g1,g2,g3,g4,g5,g6,g7,g8,g9,BC,BF,C0,BR,BI,BK,BM,BY,BT,BU,w0,w1,w2,w3,w4,w5,w6,w7,w8,w9,BD,BB,BS,BP,BV,BQ,BH,BO,BL,BN,Mk,Nat.reduceAdd,Nat.reduceSub,Nat.reduceMul,Nat.reduceMod,Nat.reduceDiv,Q0,U,e2,hd,ln,hp,m5,t1,t2,e1,c1,c2,c3,c4,Nat.add_zero,Am,Av,AN,AP,AO,AQ]
  · have m5 := mn 1 (by decide)
    rw [←hk] at m5
    simp (config := {maxSteps := 3000000}) (disch := omega) only [qa,g0,g1,g2,g3,g4,g5,g6,g7,g8,g9,BC,BF,C0,BR,BI,BK,BM,BY,BT,BU,w0,w1,w2,w3,w4,w5,w6,w7,w8,w9,BD,BB,BS,BP,BV,BQ,BH,BO,BL,BN,Mk,Nat.reduceAdd,Nat.reduceSub,Nat.reduceMul,Nat.reduceMod,Nat.reduceDiv,Q0,U,e2,hd,ln,hp,m5,t1,t2,e1,c1,c2,c3,c4,Nat.add_zero,Am,Av,AN,AP,AO,AQ]
  · rw [←hk] at ln
    simp (config := {maxSteps := 3000000}) (disch := omega) only [qa,g0,g1,g2,g3,g4,g5,g6,g7,g8,g9,BC,BF,C0,BR,BI,BK,BM,BY,BT,BU,w0,w1,w2,w3,w4,w5,w6,w7,w8,w9,BD,BB,BS,BP,BV,BQ,BH,BO,BL,BN,Mk,Nat.reduceAdd,Nat.reduceSub,Nat.reduceMul,Nat.reduceMod,Nat.reduceDiv,Q0,U,e2,hd,ln,hp,t1,t2,e1,c1,c2,c3,c4,Nat.add_zero,Am,Av,AN,AP,AO,AQ]
theorem do_end {m i:Nat} {out:List UInt8} {p:K4} {d5:V} {h:Heap} {n:K4} (hi:i≤3) :
    doL (Ar tab (m+2)) (.mk (.mk (.str 0 0) (.sl p 0 2 2 true 1) (.nil .sl) (sb out)) (.mk (.int .i64 i) d5 Ay Ay) Q0 Q0 Q0 Q0 Q0 Q0) h n = .ok (.exit 0) (.mk (.mk (.str 0 0) (.sl p 0 2 2 true 1) (.nil .sl) (sb out)) (.mk (.int .i64 i) d5 Ay Ay) Q0 Q0 Q0 Q0 Q0 Q0) h n := by
  have e2:∀ κ:V->R, B4 (.str 0 0) (.str 0 0) κ=κ (.bool false) := fun κ => rfl
  unfold doL
  rcases (by omega:i=0∨i=1∨i=2∨i=3) with rfl | rfl | rfl | rfl
  all_goals simp (config := {maxSteps := 3000000}) (disch := omega) only [qa,g0,g1,g2,g3,g4,g5,g6,g7,g8,g9,BC,BF,C0,BR,BI,BK,BM,BY,BT,BU,w0,w1,w2,w3,w4,w5,w6,w7,w8,w9,BD,BB,BS,BP,BV,BQ,BH,BO,BL,BN,Mk,Nat.reduceAdd,Nat.reduceSub,Nat.reduceMul,Nat.reduceMod,Nat.reduceDiv,Q0,U,e2,Nat.add_zero,Am,Av,AN,AP,AO,AQ]
theorem zer_len (k:Nat):(zer k).length=k := List.length_replicate ..
theorem zer_take {k L:Nat} (h:k≤L):(zer L).take k=zer k := by unfold zer; rw [List.take_replicate, Nat.min_eq_left h]
theorem zer_drop (k L:Nat):(zer L).drop k=zer (L - k) := by unfold zer; rw [List.drop_replicate]
def outB:List (List UInt8×List UInt8)->List UInt8
  | [] => []
  | x::cs => x.1++[13, 10]++x.2++[13, 10]++outB cs
theorem encB_out:∀ cs, encB cs=outB cs++[48, 13, 10, 13, 10]
  | [] => rfl
  | (hx, d)::cs => by
    show hx++13::10::(d++13::10::encB cs)=(hx++[13, 10]++d++[13, 10]++outB cs)++[48, 13, 10, 13, 10]
    rw [encB_out cs]; simp
theorem do_run {m L:Nat} {p:K4} {h:Heap} {n:K4} (hp:A8 p h=some (.c (.l [.int .i64 5, .int .i64 1]) false none)) (hpn:p.toN<n.toN) (hL:L<200) (hn:n.toN<48000) (hf:Bc h n) :
    ∃ h' n' i' d', Bd (doL (Ar tab (m+2))) (.mk (.mk (sb (zer L)) (.sl p 0 2 2 true 1) (.nil .sl) (.str 0 0)) (.mk (.int .i64 0) Ay Ay Ay) Q0 Q0 Q0 Q0 Q0 Q0) h n = .ok (.exit 0) (.mk (.mk (.str 0 0) (.sl p 0 2 2 true 1) (.nil .sl) (sb (outB (chsB L)))) (.mk i' d' Ay Ay) Q0 Q0 Q0 Q0 Q0 Q0) h' n'∧Fr h n h' n' 120 := by
  have z0:sb (zer 0) = .str 0 0 := rfl
  unfold chsB
  rcases Nat.eq_zero_or_pos L with rfl | hL0
  · refine ⟨h, n, .int .i64 0, Ay, ?_, Nat.le_refl _, by omega, fun _ _ => rfl, fun h => h⟩
    rw [if_pos rfl, Cu, z0]
    refine (congrArg (fun z => NA z _) (do_end (out := []) (by decide))).trans ?_
    rw [K8]; rfl
  rw [if_neg (by omega)]
  obtain ⟨h1, n1, e1, F1⟩ := do_step (m := m) (out := []) (i := 0) (d5 := Ay) (s := zer L) (k := min (zer L).length 5) hp (by rw [zer_len]; exact hL0) (by rw [zer_len]; omega) (by decide) (.inl ⟨rfl, rfl⟩) (by omega) hf
  rw [zer_len, zer_take (by omega), zer_drop, List.nil_append, show sb ([]:List UInt8) = .str 0 0 from rfl] at e1
  have w1 := F1.2.1
  have w1' := F1.1
  rcases Nat.lt_or_ge 5 L with h5 | h5
  · rw [show min L 5=5 by omega] at e1
    rw [if_neg (by omega)]
    have hp1 := (F1.2.2.1 p hpn).trans hp
    obtain ⟨h2, n2, e2, F2⟩ := do_step (m := m) (out := oneC 5 (zer 5)) (i := 1) (d5 := .int .i64 5) (s := zer (L - 5)) (k := min (zer (L - 5)).length 1) hp1 (by rw [zer_len]; omega) (by rw [zer_len]; omega) (by decide) (.inr (.inl ⟨rfl, rfl⟩)) (by omega) (F1.2.2.2 hf)
    rw [zer_len, show min (L - 5) 1=1 by omega, zer_take (by omega), zer_drop] at e2
    have w2 := F2.2.1
    have w2' := F2.1
    rcases Nat.lt_or_ge 6 L with h6 | h6
    · rw [if_neg (by omega)]
      have hp2 := (F2.2.2.1 p (by omega)).trans hp1
      obtain ⟨h3, n3, e3, F3⟩ := do_step (m := m) (out := oneC 5 (zer 5)++oneC 1 (zer 1)) (i := 2) (d5 := .int .i64 1) (s := zer (L - 5 - 1)) (k := (zer (L - 5 - 1)).length) hp2 (by rw [zer_len]; omega) (by rw [zer_len]; omega) (by decide) (.inr (.inr ⟨rfl, rfl⟩)) (by omega) (F2.2.2.2 (F1.2.2.2 hf))
      rw [zer_len, zer_take (by omega), zer_drop, show L - 5 - 1 - (L - 5 - 1)=0 by omega, show L - 5 - 1=L - 6 by omega, z0] at e3
      rw [show L - 5 - 1=L - 6 by omega] at e2
      refine ⟨h3, n3, .int .i64 3, .int .i64 (L - 6), ?_, (F1.trans F2).trans F3⟩
      rw [Cu, e1, EC, show (999999999:Nat)=999999998+1 from rfl, Cg, e2, EC, show (999999998:Nat)=999999997+1 from rfl, Cg, e3, EC, show (999999997:Nat)=999999996+1 from rfl, Cg]
      refine (congrArg (fun z => NA z _) (do_end (by decide))).trans ?_
      rw [K8]
      have:oneC 5 (zer 5)++oneC 1 (zer 1)++oneC (L - 6) (zer (L - 6))=outB [(hexB 5, zer 5), (hexB 1, zer 1), (hexB (L - 6), zer (L - 6))] := by simp [outB, oneC]
      rw [this]
    · obtain rfl:L=6 := by omega
      rw [if_pos (by decide)]
      refine ⟨h2, n2, .int .i64 2, .int .i64 1, ?_, by have := (F1.trans F2).1; omega, by have := (F1.trans F2).2.1; omega, (F1.trans F2).2.2.1, (F1.trans F2).2.2.2⟩
      rw [Cu, e1, EC, show (999999999:Nat)=999999998+1 from rfl, Cg, e2, EC, show (999999998:Nat)=999999997+1 from rfl, Cg]
      refine (congrArg (fun z => NA z _) (do_end (by decide))).trans ?_
      rw [K8]
      have:oneC 5 (zer 5)++oneC 1 (zer 1)=outB [(hexB 5, zer 5), (hexB 1, zer 1)] := by simp [outB, oneC]
      rw [this]
  · rw [show min L 5=L by omega, Nat.sub_self, z0] at e1
    rw [if_pos h5]
    refine ⟨h1, n1, .int .i64 1, .int .i64 L, ?_, by omega, by omega, F1.2.2.1, F1.2.2.2⟩
    rw [Cu, e1, EC, show (999999999:Nat)=999999998+1 from rfl, Cg]
    refine (congrArg (fun z => NA z _) (do_end (by decide))).trans ?_
    rw [K8]
    have:oneC L (zer L)=outB [(hexB L, zer L)] := by simp [outB, oneC]
    rw [this]
theorem outB_len {L:Nat} (hL:L<200):(outB (chsB L)).length<400 := by
  unfold chsB
  have h1 := hexB_len L
  have h2 := hexB_len 5
  have h3 := hexB_len 1
  have h4 := hexB_len (L - 6)
  split
  · decide
  · split
    · simp only [outB,List.length_append,List.length_cons,List.length_nil,zer_len]; omega
    · split
      · simp only [outB,List.length_append,List.length_cons,List.length_nil,zer_len]; omega
      · simp only [outB,List.length_append,List.length_cons,List.length_nil,zer_len]; omega
theorem doc_chunks {m L:Nat} {p:K4} {h:Heap} {n:K4} (hp:A8 p h=some (.c (.l [.int .i64 5, .int .i64 1]) false none)) (hpn:p.toN<n.toN) (hL:L<200) (hn:n.toN<48000) (hf:Bc h n) :
    ∃ h' n' q, Ar tab (m+3) ⟨.d0, .d0, .d9⟩ [sb (zer L), .sl p 0 2 2 true 1] h n = .rv (.sl q 0 (encB (chsB L)).length (encB (chsB L)).length false 1) h' n'∧A8 q h'=some (.c (cb (encB (chsB L))) false none)∧q.toN<n'.toN∧Fr h n h' n' 121 := by
  obtain ⟨j1, n1, i', d', e, F⟩ := do_run (m := m) (p := p) hp hpn hL hn hf
  simp only [Q0] at e
  have w1 := F.2.1
  have u1 := K4.up_toN (p := n1) (by omega)
  have ol := outB_len hL
  have c1:∀ κ:V->R, Ap (sb (outB (chsB L))) (.str 5 43168435504) κ=κ (sb (encB (chsB L))) := fun κ => by
    rw [encB_out]; exact Eu (b := [48, 13, 10, 13, 10]) (by show _+5≤_; omega) κ
  obtain ⟨j2, j2e⟩:∃ x, Af n1 j1 (some (.c (cb (encB (chsB L))) false none))=x := ⟨_, rfl⟩
  have y2:A8 n1 j2=some (.c (cb (encB (chsB L))) false none) := by rw [←j2e]; exact A6 _ _ _
  have es:∀ κ:KV, GW (sb (encB (chsB L))) j1 n1 κ=κ (.sl n1 0 (encB (chsB L)).length (encB (chsB L)).length false 1) j2 n1.up := fun κ => (Tx (encB (chsB L)) j1 (n := n1) (by omega) κ).trans (by rw [j2e])
  refine ⟨j2, n1.up, n1, ?_, y2, by omega, F.trans (j2e ▸ Fr.put (by omega) _)⟩
  rw [call2_at, show C5 ⟨.d0, .d0, .d9⟩ tab=some x9 from rfl, x9_L, x9L]
  simp (config := {maxSteps := 3000000}) (disch := omega) only [qa,g0,g1,g2,g3,g4,g5,g6,g7,g8,g9,BC,BF,C0,BR,BI,BK,BM,BY,BT,BU,w0,w1,w2,w3,w4,w5,w6,w7,w8,w9,BD,BB,BS,BP,BV,BQ,BH,BO,BL,BN,Mk,Nat.reduceAdd,Nat.reduceSub,Nat.reduceMul,Nat.reduceMod,Nat.reduceDiv,Q0,U,en1,e,c1,es,Am,Av,AN,AP,AO,AQ]
noncomputable def wrA (c:DZ):S->Heap->K4->R := fun t h n=>g4 t fun zc=>g1 t fun zd=>Al 1 zd fun ze=>Az ze h fun zf=>B0 zf fun zg=>AR zc zg fun zh=>AY zh (Aj 1 (Al 1 zd fun zi=>Az zi h fun zj=>AZ zj zc fun zk=>AR zk (iB 33) fun zl=>Ba false zl h n (fun k=>Al 1 zd fun v=>k v h n) fun zm h n=>Ba false zl h n (fun k=>Az zm h fun v=>k v h n) fun zn h n=>Ba false zl h n (fun k=>k zc h n) fun zo h n=>Ba false zl h n (fun k=>AZ zn zo fun v=>k v h n) fun zp h n=>Ba false zl h n (fun k=>C3 zp (iB 126) fun v=>k v h n) fun zq h n=>AA zl (.bool true) zq fun zr=>AY zr (w2 t (.nil .sl) fun t=>w3 t (iI 5) fun t=>rT t h n)<|nR t h n) fun t h n=>g4 t fun zs=>Ap zs (iI 1) fun zt=>w4 t zt fun t=>nR t h n)<|.ok (.exit 0) t h n
noncomputable def wrB (c:DZ):S->Heap->K4->R := fun t h n=>g6 t fun z15=>g1 t fun z16=>Al 2 z16 fun z17=>Az z17 h fun z18=>B3 z18 fun z19=>AR z15 z19 fun z1a=>AY z1a (Aj 3 (Al 2 z16 fun z1b=>Az z1b h fun z1c=>Bl 2 z1c z15 fun z1d=>Al 0 z1d fun z1e=>Az z1e h fun z1f=>Ai (c ⟨.d0,.d2,.d2⟩ [z1f] h n) fun z1g h n=>C6 z1g fun z1h=>Ba false z1h h n (fun k=>Al 2 z16 fun v=>k v h n) fun z1i h n=>Ba false z1h h n (fun k=>Az z1i h fun v=>k v h n) fun z1j h n=>Ba false z1h h n (fun k=>k z15 h n) fun z1k h n=>Ba false z1h h n (fun k=>Bl 2 z1j z1k fun v=>k v h n) fun z1l h n=>Ba false z1h h n (fun k=>Al 1 z1l fun v=>k v h n) fun z1m h n=>Ba false z1h h n (fun k=>Az z1m h fun v=>k v h n) fun z1n h n=>Ba false z1h h n (fun k=>Ai (c ⟨.d0,.d2,.d3⟩ [z1n] h n) k) fun z1o h n=>Ba false z1h h n (fun k=>C6 z1o fun v=>k v h n) fun z1p h n=>AA z1h (.bool true) z1p fun z1q=>AY z1q (w2 t (.nil .sl) fun t=>w3 t (iI 5) fun t=>rT t h n)<|g5 t fun z1r=>mV z1r fun z1s=>AB (Al 2 z16 Ax) fun z1t=>AB (Az z1t h Ax) fun z1u=>mV z15 fun z1v=>AB (Bl 2 z1u z1v Ax) fun z1w=>AB (Al 0 z1w Ax) fun z1x=>AB (Az z1x h Ax) fun z1y=>AB (Ap z1y (.str 2 8250) Ax) fun z1z=>AB (Al 2 z16 Ax) fun z20=>AB (Az z20 h Ax) fun z21=>mV z15 fun z22=>AB (Bl 2 z21 z22 Ax) fun z23=>AB (Al 1 z23 Ax) fun z24=>AB (Az z24 h Ax) fun z25=>AB (Ap z1z z25 Ax) fun z26=>AB (Ap z26 (.str 2 2573) Ax) fun z27=>AB (Ap z1s z27 Ax) fun z28=>mV z28 fun z29=>w5 t z29 fun t=>nR t h n) fun t h n=>g6 t fun z2a=>Ap z2a (iI 1) fun z2b=>w6 t z2b fun t=>nR t h n)<|.ok (.exit 2) t h n
noncomputable def x10L:Ent := .code en3 (fun c t h n=>g0 t fun z1=>GN z1 h n fun z2 h n=>Al 0 z2 fun z3=>Az z3 h fun z4=>Ai (c ⟨.d0,.d2,.d2⟩ [z4] h n) fun z5 h n=>C6 z5 fun z6=>Ba false z6 h n (fun k=>Al 2 z2 fun v=>k v h n) fun z7 h n=>Ba false z6 h n (fun k=>Az z7 h fun v=>k v h n) fun z8 h n=>Ba false z6 h n (fun k=>B3 z8 fun v=>k v h n) fun z9 h n=>Ba false z6 h n (fun k=>C3 z9 (iI 20) fun v=>k v h n) fun za h n=>AA z6 (.bool true) za fun zb=>AY zb (w1 t z2 fun t=>w2 t (.nil .sl) fun t=>w3 t (iI 5) fun t=>rT t h n)<|Aj 0 (w1 t z2 fun t=>w2 t (.nil .sl) fun t=>w3 t (iI 0) fun t=>w4 t (iI 0) fun t=>Bd (wrA c) t h n) fun t h n=>g1 t fun zu=>Al 1 zu fun zv=>Az zv h fun zw=>AW zw (.str 0 0) fun zx=>AY zx (w2 t (.nil .sl) fun t=>w3 t (iI 5) fun t=>rT t h n)<|Al 0 zu fun zy=>Az zy h fun zz=>Ap zz (.str 1 32) fun z10=>Al 1 zu fun z11=>Az z11 h fun z12=>Ap z10 z12 fun z13=>Ap z13 (.str 11 12151556179376830565074976) fun z14=>Aj 2 (w5 t z14 fun t=>w6 t (iI 0) fun t=>Bd (wrB c) t h n) fun t h n=>g5 t fun z2c=>Ap z2c (.str 2 2573) fun z2d=>B0 z2d fun z2e=>C3 z2e (iI 2000) fun z2f=>AY z2f (w2 t (.nil .sl) fun t=>w3 t (iI 9) fun t=>w5 t z2d fun t=>rT t h n)<|g1 t fun z2g=>Al 3 z2g fun z2h=>Az z2h h fun z2i=>Ap z2d z2i fun z2j=>GW z2j h n fun z2k h n=>w2 t z2k fun t=>w3 t (iI 0) fun t=>w5 t z2d fun t=>rT t h n) (fun t h n=>g2 t fun a0=>g3 t fun a1=>.rv (.tup [a0,a1]) h n)
theorem x10_L:x10=x10L := rfl
def v11:List UInt8 := [32, 72, 84, 84, 80, 47, 49, 46, 49, 13, 10]
theorem v11_e:sb v11 = .str 11 12151556179376830565074976 := by kernel_rfl
def headB (me ta nm w:List UInt8):List UInt8 := me++[32]++ta++v11++(nm++[58, 32]++w++[13, 10])++[13, 10]
theorem headB_e (me ta nm w body:List UInt8):headB me ta nm w++body=(me++32::(ta++32::verL))++13::10::((nm++58::(32::w))++13::10::13::10::body) := by
  simp [headB, v11, verL]
theorem doc_write {m:Nat} {fq:K4} {me ta nm w body:List UInt8} {h:Heap} {n:K4} (hq:A8 fq h=some (.c (.l [sb nm, sb w]) false none)) (hqn:fq.toN<n.toN)
    (ht1:∀ (h:Heap) (n:K4), Ar tab (m+3) ⟨.d0, .d2, .d2⟩ [sb me] h n = .rv (.bool true) h n) (ht2:∀ (h:Heap) (n:K4), Ar tab (m+3) ⟨.d0, .d2, .d2⟩ [sb nm] h n = .rv (.bool true) h n) (hv:∀ (h:Heap) (n:K4), Ar tab (m+3) ⟨.d0, .d2, .d3⟩ [sb w] h n = .rv (.bool true) h n)
    (ht:tarB ta=true) (hl:me.length+ta.length+nm.length+w.length<1900) (hb:body.length<100000) (hn:n.toN<55000) :
    ∃ h' n' q, Ar tab (m+4) ⟨.d0, .d0, .d10⟩ [.agg [sb me, sb ta, .sl fq 0 1 1 true 2, sb body]] h n = .rv (.tup [.sl q 0 (headB me ta nm w++body).length (headB me ta nm w++body).length false 1, .int .i64 0]) h' n'∧A8 q h'=some (.c (cb (headB me ta nm w++body)) false none)∧q.toN<n'.toN∧Fr h n h' n' 2 := by
  have u1 := K4.up_toN (p := n) (by omega)
  have u2 := K4.up_toN (p := n.up) (by omega)
  have hv11:v11.length=11 := rfl
  obtain ⟨j1, j1e⟩:∃ x, Af n h (some (.c (.l [sb me, sb ta, .sl fq 0 1 1 true 2, sb body]) false none))=x := ⟨_, rfl⟩
  have F1:Fr h n j1 n.up 1 := j1e ▸ Fr.put (by omega) _
  have y1:A8 n j1=some (.c (.l [sb me, sb ta, .sl fq 0 1 1 true 2, sb body]) false none) := by rw [←j1e]; exact A6 _ _ _
  have q1:A8 fq j1=some (.c (.l [sb nm, sb w]) false none) := (F1.2.2.1 fq hqn).trans hq
  have hne:¬ ta=[] := by unfold tarB at ht; exact of_decide_eq_true (Bool.and_eq_true_iff.1 ht).2
  have hall:ta.all tarC=true := by unfold tarB at ht; exact (Bool.and_eq_true_iff.1 ht).1
  have lt := fun κ => Fe ta (by omega) κ
  have l0:∀ κ:V->R, Lj (some (.c (.l [sb me, sb ta, .sl fq 0 1 1 true 2, sb body]) false none)) 0 κ=κ (sb me) := fun κ => rfl
  have l1:∀ κ:V->R, Lj (some (.c (.l [sb me, sb ta, .sl fq 0 1 1 true 2, sb body]) false none)) 1 κ=κ (sb ta) := fun κ => rfl
  have l2:∀ κ:V->R, Lj (some (.c (.l [sb me, sb ta, .sl fq 0 1 1 true 2, sb body]) false none)) 2 κ=κ (.sl fq 0 1 1 true 2) := fun κ => rfl
  have l3:∀ κ:V->R, Lj (some (.c (.l [sb me, sb ta, .sl fq 0 1 1 true 2, sb body]) false none)) 3 κ=κ (sb body) := fun κ => rfl
  have r0:∀ κ:V->R, Lj (some (.c (.l [sb nm, sb w]) false none)) 0 κ=κ (sb nm) := fun κ => rfl
  have r1:∀ κ:V->R, Lj (some (.c (.l [sb nm, sb w]) false none)) 1 κ=κ (sb w) := fun κ => rfl
  obtain ⟨A, hA⟩:∃ x, V.agg [sb me, sb ta, .sl fq 0 1 1 true 2, sb body]=x := ⟨_, rfl⟩
  have ebx:∀ κ:KV, GN A h n κ=κ (.ptr n 0) j1 n.up := fun κ => by rw [←hA]; exact (PQ (by omega) _ h κ).trans (by rw [j1e])
  have step:∀ (i:Nat) (hi:i<ta.length), tarC ta[i]=true->wrA (Ar tab (m+3)) (.mk (.mk A (.ptr n 0) (.nil .sl) (.int .i64 0)) (.mk (.int .i64 i) Ay Ay Ay) Q0 Q0 Q0 Q0 Q0 Q0) j1 n.up = .ok .nrm (.mk (.mk A (.ptr n 0) (.nil .sl) (.int .i64 0)) (.mk (.int .i64 (i+1)) Ay Ay Ay) Q0 Q0 Q0 Q0 Q0 Q0) j1 n.up := by
    intro i hi hp
    have e2 := fun κ => Ek hi (by omega) κ
    have hr := of_decide_eq_true hp
    have hb := ta[i].toNat_lt
    unfold wrA
    simp (config := {maxSteps := 3000000}) (disch := omega) only [qa,g0,g1,g2,g3,g4,g5,g6,g7,g8,g9,BC,BF,C0,BR,BI,BK,BM,BY,BT,BU,w0,w1,w2,w3,w4,w5,w6,w7,w8,w9,BD,BB,BS,BP,BV,BQ,BH,BO,BL,BN,Mk,Nat.reduceAdd,Nat.reduceSub,Nat.reduceMul,Nat.reduceMod,Nat.reduceDiv,Q0,U,y1,l1,lt,e2,q_iB,FS,Am,Av,AN,AP,AO,AQ]
  have fin:wrA (Ar tab (m+3)) (.mk (.mk A (.ptr n 0) (.nil .sl) (.int .i64 0)) (.mk (.int .i64 ta.length) Ay Ay Ay) Q0 Q0 Q0 Q0 Q0 Q0) j1 n.up = .ok (.exit 0) (.mk (.mk A (.ptr n 0) (.nil .sl) (.int .i64 0)) (.mk (.int .i64 ta.length) Ay Ay Ay) Q0 Q0 Q0 Q0 Q0 Q0) j1 n.up := by
    unfold wrA
    simp (config := {maxSteps := 3000000}) (disch := omega) only [qa,g0,g1,g2,g3,g4,g5,g6,g7,g8,g9,BC,BF,C0,BR,BI,BK,BM,BY,BT,BU,w0,w1,w2,w3,w4,w5,w6,w7,w8,w9,BD,BB,BS,BP,BV,BQ,BH,BO,BL,BN,Mk,Nat.reduceAdd,Nat.reduceSub,Nat.reduceMul,Nat.reduceMod,Nat.reduceDiv,Q0,U,y1,l1,lt,Am,Av,AN,AP,AO,AQ]
  have key := Hm (P := tarC) (l := ta) (mk := fun i => .mk (.mk A (.ptr n 0) (.nil .sl) (.int .i64 0)) (.mk (.int .i64 i) Ay Ay Ay) Q0 Q0 Q0 Q0 Q0 Q0) (fin := fun i => .mk (.mk A (.ptr n 0) (.nil .sl) (.int .i64 0)) (.mk (.int .i64 i) Ay Ay Ay) Q0 Q0 Q0 Q0 Q0 Q0) (by omega) step (fun i hi hp => by
    have := List.all_eq_true.1 hall ta[i] (List.getElem_mem hi)
    rw [this] at hp; cases hp) fin
  simp only [Q0] at key
  have k2:Bd (wrA (Ar tab (m+3))) (.mk (.mk A (.ptr n 0) (.nil .sl) (.int .i64 0)) (.mk (.int .i64 0) Ay Ay Ay) (.mk Ay Ay Ay Ay) (.mk Ay Ay Ay Ay) (.mk Ay Ay Ay Ay) (.mk Ay Ay Ay Ay) (.mk Ay Ay Ay Ay) (.mk Ay Ay Ay Ay)) j1 n.up = .ok (.exit 0) (.mk (.mk A (.ptr n 0) (.nil .sl) (.int .i64 0)) (.mk (.int .i64 ta.length) Ay Ay Ay) (.mk Ay Ay Ay Ay) (.mk Ay Ay Ay Ay) (.mk Ay Ay Ay Ay) (.mk Ay Ay Ay Ay) (.mk Ay Ay Ay Ay) (.mk Ay Ay Ay Ay)) j1 n.up := by
    rcases key with ⟨_, h2⟩ | ⟨h1, _⟩
    · exact h2
    · rw [hall] at h1; cases h1
  have et := fun κ => MB ta κ
  have hd := decide_eq_false hne
  have c1:∀ κ:V->R, Ap (sb me) (.str 1 32) κ=κ (sb (me++[32])) := fun κ => Eu (b := [32]) (by show _+1≤_; omega) κ
  have c2:∀ κ:V->R, Ap (sb (me++[32])) (sb ta) κ=κ (sb (me++[32]++ta)) := fun κ => Eu (by simp only [List.length_append,List.length_cons,List.length_nil]; omega) κ
  have c3:∀ κ:V->R, Ap (sb (me++[32]++ta)) (.str 11 12151556179376830565074976) κ=κ (sb (me++[32]++ta++v11)) := fun κ => by
    rw [←v11_e]; exact Eu (by simp only [List.length_append,List.length_cons,List.length_nil,hv11]; omega) κ
  have c4:∀ κ:V->R, Ap (sb nm) (.str 2 8250) κ=κ (sb (nm++[58, 32])) := fun κ => Eu (b := [58, 32]) (by show _+2≤_; omega) κ
  have c5:∀ κ:V->R, Ap (sb (nm++[58, 32])) (sb w) κ=κ (sb (nm++[58, 32]++w)) := fun κ => Eu (by simp only [List.length_append,List.length_cons,List.length_nil]; omega) κ
  have c6:∀ κ:V->R, Ap (sb (nm++[58, 32]++w)) (.str 2 2573) κ=κ (sb (nm++[58, 32]++w++[13, 10])) := fun κ => Eu (b := [13, 10]) (by simp only [List.length_append,List.length_cons,List.length_nil]; omega) κ
  have c7:∀ κ:V->R, Ap (sb (me++[32]++ta++v11)) (sb (nm++[58, 32]++w++[13, 10])) κ=κ (sb (me++[32]++ta++v11++(nm++[58, 32]++w++[13, 10]))) := fun κ => Eu (by simp only [List.length_append,List.length_cons,List.length_nil,hv11]; omega) κ
  have c8:∀ κ:V->R, Ap (sb (me++[32]++ta++v11++(nm++[58, 32]++w++[13, 10]))) (.str 2 2573) κ=κ (sb (headB me ta nm w)) := fun κ => Eu (b := [13, 10]) (by simp only [List.length_append,List.length_cons,List.length_nil,hv11]; omega) κ
  have hhl:(headB me ta nm w).length=me.length+ta.length+nm.length+w.length+18 := by simp only [headB,List.length_append,List.length_cons,List.length_nil,hv11]; omega
  have lh := fun κ => Fe (headB me ta nm w) (by omega) κ
  have c9:∀ κ:V->R, Ap (sb (headB me ta nm w)) (sb body) κ=κ (sb (headB me ta nm w++body)) := fun κ => Eu (by omega) κ
  have hlt:(headB me ta nm w).length<2000 := by omega
  obtain ⟨H, hH⟩:∃ x, headB me ta nm w=x := ⟨_, rfl⟩
  rw [hH] at c8 lh c9 hlt ⊢
  obtain ⟨j2, j2e⟩:∃ x, Af n.up j1 (some (.c (cb (H++body)) false none))=x := ⟨_, rfl⟩
  have y2:A8 n.up j2=some (.c (cb (H++body)) false none) := by rw [←j2e]; exact A6 _ _ _
  have es:∀ κ:KV, GW (sb (H++body)) j1 n.up κ=κ (.sl n.up 0 (H++body).length (H++body).length false 1) j2 n.up.up := fun κ => (Tx (H++body) j1 (n := n.up) (by omega) κ).trans (by rw [j2e])
  have e1 := ht1 j1 n.up
  have e2 := ht2 j1 n.up
  have e3 := hv j1 n.up
  refine ⟨j2, n.up.up, n.up, ?_, y2, by omega, F1.trans (j2e ▸ Fr.put (by omega) _)⟩
  rw [call2_at, show C5 ⟨.d0, .d0, .d10⟩ tab=some x10 from rfl, x10_L, x10L]
  simp (config := {maxSteps := 3000000}) (disch := omega) only [qa,g0,g1,g2,g3,g4,g5,g6,g7,g8,g9,BC,BF,C0,BR,BI,BK,BM,BY,BT,BU,w0,w1,w2,w3,w4,w5,w6,w7,w8,w9,BD,BB,BS,BP,BV,BQ,BH,BO,BL,BN,Mk,Nat.reduceAdd,Nat.reduceSub,Nat.reduceMul,Nat.reduceMod,Nat.reduceDiv,Q0,U,en3,hA,ebx,y1,l0,e1,l2,k2,l1,et,hd,c1,c2,c3,Am,Av,AN,AP,AO,AQ]
  rw [Cu]
  unfold wrB
  simp (config := {maxSteps := 3000000}) (disch := omega) only [qa,g0,g1,g2,g3,g4,g5,g6,g7,g8,g9,BC,BF,C0,BR,BI,BK,BM,BY,BT,BU,w0,w1,w2,w3,w4,w5,w6,w7,w8,w9,BD,BB,BS,BP,BV,BQ,BH,BO,BL,BN,Mk,Nat.reduceAdd,Nat.reduceSub,Nat.reduceMul,Nat.reduceMod,Nat.reduceDiv,Q0,U,y1,l2,q1,r0,r1,e2,e3,c4,c5,c6,c7,Am,Av,AN,AP,AO,AQ]
  rw [show (999999999:Nat)=999999998+1 from rfl, Cg]
  simp (config := {maxSteps := 3000000}) (disch := omega) only [qa,g0,g1,g2,g3,g4,g5,g6,g7,g8,g9,BC,BF,C0,BR,BI,BK,BM,BY,BT,BU,w0,w1,w2,w3,w4,w5,w6,w7,w8,w9,BD,BB,BS,BP,BV,BQ,BH,BO,BL,BN,Mk,Nat.reduceAdd,Nat.reduceSub,Nat.reduceMul,Nat.reduceMod,Nat.reduceDiv,Q0,U,y1,l2,l3,c8,lh,c9,es,Am,Av,AN,AP,AO,AQ]
noncomputable def mT (c:DZ):S->Heap->K4->R := fun t h n=>M8 n fun b n=>UI b .d0 h<|g4 t fun zy=>mV zy fun zz=>g6 t fun z10=>AB (FM 2 z10 h Ax) fun z11=>g5 t fun z12=>mV z12 fun z13=>HN (Ai (c ⟨.d0,.d0,.d8⟩ [zz] h n) .rv) fun z14 h n=>UI b .d0 h<|Yi b .d0 h (fun r=>FQ 0 2 z11 [(.str 0 0),(.str 0 0)] fun z15=>CN false 1 2 z15 h r .rv) fun z16 h1=>AB (Ag 0 (.str 1 77) [(.str 0 0),(.str 0 0),(.nil .sl),(.str 0 0)] fun z17=>Ag 1 z14 z17 fun z18=>Ag 2 z16 z18 fun z19=>Ag 3 z13 z19 fun z1a=>Ax (.agg z1a)) fun z1b=>AB (FM 2 z10 h Ax) fun v=>BE z11 v<|HN (Ai (c ⟨.d0,.d0,.d10⟩ [z1b] h1 n) .rv) fun z1c h n=>mV z1c fun z1d=>AB (AU 0 z1d Ax) fun z1e=>AB (AU 1 z1d Ax) fun z1f=>mV z1e fun z1g=>mV z1f fun z1h=>g3 t fun z1i=>HR 1 1 z1i z1g h n fun z1j h n=>w3 t z1j fun t=>nR t h n
noncomputable def mA (c:DZ):S->Heap->K4->R := fun t h n=>g4 t fun z8=>g0 t fun z9=>AR z8 z9 fun za=>AY za (Aj 1 (Fd z8 (iI 3) fun zb=>FU 1 true [(iB 0)] zb zb h n fun zc h n=>C4 zc h fun zd=>B0 zd fun ze=>Ai (c ⟨.d0,.d0,.d8⟩ [ze] h n) fun zf h n=>Ag 0 (.str 14 2118593076047644386086300223958851) [(.str 0 0),(.str 0 0)] fun zg=>Ag 1 zf zg fun zh=>Dc (.l [(.str 0 0),(.str 0 0)]) h n fun zi h n=>Bn 2 zi (.agg zh) h fun h=>g1 t fun zj=>B3 zj fun zk=>AR z8 zk fun zl=>gK zl zj h n fun zm h n=>gK zl z8 h n fun zn h n=>gO zl h n (fun k=>Bl 1 zm zn k) fun zo h n=>gO zl h n (fun k=>Az zo h k) fun zp h n=>AA zl zp (.bool false) fun zq=>Br (AY zq (Ag 0 (.str 17 35195846100629207368392487591500390167124) [(.str 0 0),(.str 0 0)] fun zr=>Ag 1 (.str 7 28259009760159843) zr fun zs=>Bn 2 zi (.agg zs) h fun h=>Ag 0 (iI 5) [(iI 0),(iI 0)] fun zt=>Ag 1 (iI 1) zt fun zu=>CN false 2 1 zu h n fun zv h n=>Ai (c ⟨.d0,.d0,.d9⟩ [zd,zv] h n) fun zw h n=>C4 zw h fun zx=>w5 t zx fun t=>w6 t zi fun t=>nR t h n) (w5 t zd fun t=>w6 t zi fun t=>nR t h n)) (mT c)) fun t h n=>g4 t fun z1k=>Ap z1k (iI 1) fun z1l=>w4 t z1l fun t=>nR t h n)<|.ok (.exit 0) t h n
noncomputable def mB (c:DZ):S->Heap->K4->R := fun t h n=>g8 t fun z1p=>g0 t fun z1q=>AR z1p z1q fun z1r=>AY z1r (Aj 3 (g7 t fun z1s=>Ai (c ⟨.d0,.d0,.d13⟩ [z1s] h n) fun z1t h n=>AU 0 z1t fun z1u=>AU 1 z1t fun z1v=>Dc (.l [(.str 0 0),(.str 0 0),(.nil .sl),(.str 0 0)]) h n fun z1w h n=>Bn 4 z1w z1u h fun h=>mV z1v fun z1x=>AB (B4 z1x (iI 0) Ax) fun z1y=>mV z1y fun z1z=>JL false z1z (fun k=>AB (Al 1 z1w Ax) k) fun z20=>JL false z1z (fun k=>AB (Az z20 h Ax) k) fun z21=>JL false z1z (fun k=>AB (Ax z1p) k) fun z22=>Ba false z1z h n (fun k=>HN (Ai (c ⟨.d0,.d0,.d8⟩ [z22] h n) .rv) k) fun z23 h n=>JL false z1z (fun k=>AB (B4 z21 z23 Ax) k) fun z24=>AB (AA z1z (.bool true) z24 Ax) fun z25=>mV z25 fun z26=>JL false z26 (fun k=>AB (Al 3 z1w Ax) k) fun z27=>JL false z26 (fun k=>AB (Az z27 h Ax) k) fun z28=>JL false z26 (fun k=>AB (B0 z28 Ax) k) fun z29=>JL false z26 (fun k=>AB (Ax z1p) k) fun z2a=>JL false z26 (fun k=>AB (Fd z2a (iI 3) Ax) k) fun z2b=>JL false z26 (fun k=>AB (B4 z29 z2b Ax) k) fun z2c=>AB (AA z26 (.bool true) z2c Ax) fun z2d=>ZC false z1z (fun e=>AB (Az z20 h Ax) fun v=>BE z21 v e)<|AY z2d (w2 t (.bool false) fun t=>rT t h n)<|nR t h n) fun t h n=>g8 t fun z2e=>Ap z2e (iI 1) fun z2f=>w8 t z2f fun t=>nR t h n)<|.ok (.exit 2) t h n
noncomputable def x3L:Ent := .code en1 (fun c t h n=>Ai (c ⟨.d0,.d0,.d7⟩ [] h n) fun z1 h n=>C6 z1 fun z2=>AY z2 (w2 t (.bool false) fun t=>rT t h n)<|g0 t fun z3=>AR z3 (iI 0) fun z4=>Ba false z4 h n (fun k=>k z3 h n) fun z5 h n=>Ba false z4 h n (fun k=>C3 z5 (iI 30) fun v=>k v h n) fun z6 h n=>AA z4 (.bool true) z6 fun z7=>AY z7 (w2 t (.bool true) fun t=>rT t h n)<|Aj 0 (w2 t (.bool false) fun t=>w3 t (.nil .sl) fun t=>w4 t (iI 0) fun t=>Bd (mA c) t h n) fun t h n=>Ai (c ⟨.d0,.d0,.d11⟩ [] h n) fun z1m h n=>g3 t fun z1n=>Ai (c ⟨.d0,.d0,.d12⟩ [z1m,z1n] h n) fun z1o h n=>Aj 2 (w7 t z1m fun t=>w8 t (iI 0) fun t=>Bd (mB c) t h n) fun t h n=>g7 t fun z2g=>Ai (c ⟨.d0,.d0,.d13⟩ [z2g] h n) fun z2h h n=>AU 0 z2h fun z2i=>AU 1 z2h fun z2j=>Dc (.l [(.str 0 0),(.str 0 0),(.nil .sl),(.str 0 0)]) h n fun z2k h n=>Bn 4 z2k z2i h fun h=>AW z2j (iI 11) fun z2l=>gK z2l z2g h n fun z2m h n=>Ba true z2l h n (fun k=>Ai (c ⟨.d0,.d0,.d14⟩ [z2m] h n) k) fun z2n h n=>gO z2l h n (fun k=>AW z2n (iI 0) k) fun z2o h n=>AA z2l z2o (.bool false) fun z2p=>w2 t z2p fun t=>rT t h n) (fun t h n=>g2 t fun a0=>.rv a0 h n)
theorem x3_L:x3=x3L := rfl
theorem zer_enc:∀ k:Nat, Au (zer k)=0
  | 0 => rfl
  | k+1 => by
    show Au (0::zer k)=0
    simp only [Au,zer_enc k]; rfl
theorem cb_zer (k:Nat):cb (zer k) = .b k 0 := by
  show Cs.b (zer k).length (Au (zer k))=_
  rw [zer_len, zer_enc]
theorem same_sb (l:List UInt8) (κ:R):BE (sb l) (sb l) κ=κ := by
  show br (DE _ _ _ _) κ _=_
  rw [KQ, decide_eq_true rfl, decide_eq_true rfl]; rfl
theorem same_2 (a b:List UInt8) (κ:R):BE (.agg [sb a, sb b]) (.agg [sb a, sb b]) κ=κ := by
  show BE (sb a) (sb a) (BE (sb b) (sb b) κ)=_
  rw [same_sb, same_sb]
def nmB (c:Bool):List UInt8 := bif c then teL else clL
def wB (i:Nat) (c:Bool):List UInt8 := bif c then chL else decB (i*3)
def bodyB (i:Nat) (c:Bool):List UInt8 := bif c then encB (chsB (i*3)) else zer (i*3)
def msgB (i:Nat) (c:Bool):List UInt8 := headB [77] (decB i) (nmB c) (wB i c)++bodyB i c
def chAt (l:List Bool) (i:Nat):Bool := (l[i]?).getD false
def BVd (v:V) (os:List Bool):Prop := (v = .nil .sl∧os=[])∨v = .oth (.rx (os.map RV.b) os.length 1)
theorem rvb_v (b:Bool):(RV.b b).v = .bool b := id rfl
theorem tar_dec:∀ i, i<30->tarB (decB i)=true := by decide +kernel
theorem dec_len (i:Nat):(decB i).length≤2 := by
  unfold decB
  by_cases h:i<10
  · rw [if_pos h]; show 1≤2; omega
  · rw [if_neg h]; show 2≤2; omega
theorem tokM (m:Nat) (h:Heap) (n:K4):Ar tab (m+3) ⟨.d0, .d2, .d2⟩ [sb [77]] h n = .rv (.bool true) h n := by kernel_rfl
theorem tokCL (m:Nat) (h:Heap) (n:K4):Ar tab (m+3) ⟨.d0, .d2, .d2⟩ [sb clL] h n = .rv (.bool true) h n := by kernel_rfl
theorem tokTE (m:Nat) (h:Heap) (n:K4):Ar tab (m+3) ⟨.d0, .d2, .d2⟩ [sb teL] h n = .rv (.bool true) h n := by kernel_rfl
theorem valCH (m:Nat) (h:Heap) (n:K4):Ar tab (m+3) ⟨.d0, .d2, .d3⟩ [sb chL] h n = .rv (.bool true) h n := by kernel_rfl
theorem valDE (m:Nat) (h:Heap) (n:K4):∀ i, i<30->Ar tab (m+3) ⟨.d0, .d2, .d3⟩ [sb (decB (i*3))] h n = .rv (.bool true) h n := by
  intro i hi
  rcases (by omega:i=0∨i=1∨i=2∨i=3∨i=4∨i=5∨i=6∨i=7∨i=8∨i=9∨i=10∨i=11∨i=12∨i=13∨i=14∨i=15∨i=16∨i=17∨i=18∨i=19∨i=20∨i=21∨i=22∨i=23∨i=24∨i=25∨i=26∨i=27∨i=28∨i=29) with rfl | rfl | rfl | rfl | rfl | rfl | rfl | rfl | rfl | rfl | rfl | rfl | rfl | rfl | rfl | rfl | rfl | rfl | rfl | rfl | rfl | rfl | rfl | rfl | rfl | rfl | rfl | rfl | rfl | rfl
  all_goals kernel_rfl
abbrev mst (nn:Nat) (cv bv:V) (i:Nat) (d5 d6:V):S := .mk (.mk (.int .i64 nn) cv (.bool false) bv) (.mk (.int .i64 i) d5 d6 Ay) Q0 Q0 Q0 Q0 Q0 Q0
theorem mT_ok {m nn i lo:Nat} {cv bv:V} {zi:K4} {acc nm w body:List UInt8} {h:Heap} {n:K4} (O:E8 lo n h bv acc) (hlo:lo≤n.toN) (hacc:acc.length<100000000) (hz:A8 zi h=some (.c (.l [sb nm, sb w]) false none)) (hzn:zi.toN<n.toN) (hi:i<30)
    (ht2:∀ (h:Heap) (n:K4), Ar tab (m+3) ⟨.d0, .d2, .d2⟩ [sb nm] h n = .rv (.bool true) h n) (hv:∀ (h:Heap) (n:K4), Ar tab (m+3) ⟨.d0, .d2, .d3⟩ [sb w] h n = .rv (.bool true) h n) (hl:nm.length+w.length<1800) (hb:body.length<100000) (hf:Bc h n) (hn:n.toN<45000) :
    ∃ h' n' bv', mT (Ar tab (m+4)) (mst nn cv bv i (sb body) (.ptr zi 0)) h n = .ok .nrm (mst nn cv bv' i (sb body) (.ptr zi 0)) h' n'∧E8 lo n' h' bv' (acc++(headB [77] (decB i) nm w++body))∧n.toN≤n'.toN∧n'.toN≤n.toN+100∧(∀ q:K4, q.toN<lo->A8 q h'=A8 q h)∧Bc h' n' := by
  have v1 := K4.up16_toN (p := n) (by omega)
  have v2 := K4.up16_toN (p := n.up16) (by omega)
  have v3 := K4.pl_toN (p := n) (by omega) .d0
  have hd0:D.d0.toN=0 := rfl
  have hdl := dec_len i
  obtain ⟨j1, n1, e1, F1⟩ := dec_ok (m := m+2) (k := i) (h := h) (n := n.up16.up16) (by omega) (by omega) fun q hq => hf q (by omega)
  have w1 := F1.2.1
  have w1' := F1.1
  have z0:A8 (n.up16.pl .d0) h=none := hf _ (by omega)
  have z1:A8 (n.up16.pl .d0) j1=none := (F1.2.2.1 _ (by omega)).trans z0
  obtain ⟨j2, j2e⟩:∃ x, Af (n.up16.pl .d0) j1 (some (.c (.l [sb nm, sb w]) false none))=x := ⟨_, rfl⟩
  have f2:∀ q:K4, q≠n.up16.pl .d0->A8 q j2=A8 q j1 := fun q hq => by rw [←j2e]; exact A7 _ _ hq.symm
  have y2:A8 (n.up16.pl .d0) j2=some (.c (.l [sb nm, sb w]) false none) := by rw [←j2e]; exact A6 _ _ _
  have ep:∀ κ:List V->R, FQ 0 2 (.agg [sb nm, sb w]) [.str 0 0, .str 0 0] κ=κ [sb nm, sb w] := fun κ => rfl
  have eb:∀ κ:KV, CN false 1 2 [sb nm, sb w] j1 (n.up16.pl .d0) κ=κ (.sl (n.up16.pl .d0) 0 1 1 true 2) j2 (n.up16.pl .d0).up := fun κ => (N6 (by omega) 1 2 _ j1 κ).trans (by rw [j2e])
  have zz1:A8 zi j1=some (.c (.l [sb nm, sb w]) false none) := (F1.2.2.1 zi (by omega)).trans hz
  have zz:A8 zi j2=some (.c (.l [sb nm, sb w]) false none) := (f2 zi (K4.ne_of_lt (by omega))).trans ((F1.2.2.1 zi (by omega)).trans hz)
  have l2:∀ κ:V->R, Lo (some (.c (.l [sb nm, sb w]) false none)) 2 0 κ=κ (.agg [sb nm, sb w]) := fun κ => rfl
  have p1:∀ κ:List V->R, Ag 0 (.str 1 77) [.str 0 0, .str 0 0, .nil .sl, .str 0 0] κ=κ [.str 1 77, .str 0 0, .nil .sl, .str 0 0] := fun κ => rfl
  have p2:∀ κ:List V->R, Ag 1 (sb (decB i)) [.str 1 77, .str 0 0, .nil .sl, .str 0 0] κ=κ [.str 1 77, sb (decB i), .nil .sl, .str 0 0] := fun κ => rfl
  have p3:∀ κ:List V->R, Ag 2 (.sl (n.up16.pl .d0) 0 1 1 true 2) [.str 1 77, sb (decB i), .nil .sl, .str 0 0] κ=κ [.str 1 77, sb (decB i), .sl (n.up16.pl .d0) 0 1 1 true 2, .str 0 0] := fun κ => rfl
  have p4:∀ κ:List V->R, Ag 3 (sb body) [.str 1 77, sb (decB i), .sl (n.up16.pl .d0) 0 1 1 true 2, .str 0 0] κ=κ [.str 1 77, sb (decB i), .sl (n.up16.pl .d0) 0 1 1 true 2, sb body] := fun κ => rfl
  obtain ⟨j3, n3, q, e3, q3, q3', F3⟩ := doc_write (m := m) (fq := n.up16.pl .d0) (me := [77]) (ta := decB i) (body := body) (h := j2) (n := n1) y2 (by omega) (tokM m) ht2 hv (tar_dec i hi) (by show 1+_+_+_<1900; omega) hb (by omega)
  rw [show sb [77] = .str 1 77 from rfl] at e3
  have w3' := F3.1
  have w3 := F3.2.1
  have hl0:(headB [77] (decB i) nm w++body).length<200000 := by
    have hv11:v11.length=11 := rfl
    simp only [headB,List.length_append,List.length_cons,List.length_nil,hv11]; omega
  have fr3:∀ x:K4, x.toN<n.toN->A8 x j3=A8 x h := fun x hx => (F3.2.2.1 x (by omega)).trans ((f2 x (K4.ne_of_lt (by omega))).trans (F1.2.2.1 x (by omega)))
  obtain ⟨M, hM⟩:∃ x, headB [77] (decB i) nm w++body=x := ⟨_, rfl⟩
  rw [hM] at e3 q3 hl0 ⊢
  have O3:E8 lo n3 j3 bv acc := O.frame (by omega) fun q _ hq => fr3 q hq
  obtain ⟨c', j4, n4, e4, O4, b1, b2, f4, r4⟩ := OX (lo := lo) (n := n3) O3 (v := .sl q 0 M.length M.length false 1) (b := M) (.inr (.inr ⟨q, 0, M.length, false, M, false, none, rfl, q3, by omega, by rw [List.drop_zero, List.take_length]⟩)) (by omega) (by omega) (by omega)
  refine ⟨j4, n4, c', ?_, O4, by omega, by omega, fun x hx => (f4 x hx).trans (fr3 x (by omega)), r4 (F3.2.2.2 fun x hx => (f2 x (K4.ne_of_lt (by omega)).symm).trans (F1.2.2.2 (fun q hq => hf q (by omega)) x hx))⟩
  unfold mT
  simp (config := {maxSteps := 3000000}) (disch := omega) only [qa,g0,g1,g2,g3,g4,g5,g6,g7,g8,g9,BC,BF,C0,BR,BI,BK,BM,BY,BT,BU,w0,w1,w2,w3,w4,w5,w6,w7,w8,w9,BD,BB,BS,BP,BV,BQ,BH,BO,BL,BN,Mk,Nat.reduceAdd,Nat.reduceSub,Nat.reduceMul,Nat.reduceMod,Nat.reduceDiv,Q0,U,z0,hz,l2,e1,z1,ep,eb,p1,p2,p3,p4,j2e,zz1,zz,same_2,e3,e4,Am,Av,AN,AP,AO,AQ]
theorem encB_len {L:Nat} (hL:L<200):(encB (chsB L)).length<405 := by
  rw [encB_out, List.length_append]; have := outB_len hL; show _+5<_; omega
theorem body_lenB {i:Nat} (c:Bool) (hi:i<30):(bodyB i c).length<405 := by
  cases c with
  | true => exact encB_len (by omega)
  | false => show (zer (i*3)).length<_; rw [zer_len]; omega
theorem nm_len (c:Bool):(nmB c).length≤17 := by cases c <;> decide
theorem w_len (i:Nat) (c:Bool):(wB i c).length≤7 := by
  cases c with
  | true => show 7≤7; omega
  | false => exact Nat.le_trans (dec_len _) (by decide)
theorem msg_len {i:Nat} (c:Bool) (hi:i<30):(msgB i c).length<1000 := by
  have h1 := body_lenB c hi
  have h2 := nm_len c
  have h3 := w_len i c
  have h4 := dec_len i
  have hv11:v11.length=11 := rfl
  simp only [msgB,headB,List.length_append,List.length_cons,List.length_nil,hv11]; omega
theorem mA_ok {m nn i lo:Nat} {cv bv d5 d6:V} {l:List Bool} {acc:List UInt8} {h:Heap} {n:K4} (O:E8 lo n h bv acc) (hlo:lo≤n.toN) (hacc:acc.length<100000000) (hi:i<30) (hin:i<nn) (hnn:nn≤30) (hcv:BVd cv l) (hlen:l.length<9223372036854775808) (hf:Bc h n) (hn:n.toN<44000) :
    ∃ h' n' bv' d5' d6', mA (Ar tab (m+4)) (mst nn cv bv i d5 d6) h n = .ok .nrm (mst nn cv bv' (i+1) d5' d6') h' n'∧E8 lo n' h' bv' (acc++msgB i (chAt l i))∧n.toN≤n'.toN∧n'.toN≤n.toN+300∧(∀ q:K4, q.toN<lo->A8 q h'=A8 q h)∧Bc h' n' := by
  have u1 := K4.up_toN (p := n) (by omega)
  obtain ⟨L, hL⟩:∃ x, i*3=x := ⟨_, rfl⟩
  have hl:∀ κ:V->R, B3 cv κ=κ (.int .i64 l.length) := fun κ => by
    rcases hcv with ⟨rfl, rfl⟩ | rfl
    · rfl
    · exact D8 hlen κ
  have emul:∀ κ:V->R, Fd (.int .i64 i) (.int .i64 3) κ=κ (.int .i64 L) := fun κ => by
    rcases (by omega:i=0∨i=1∨i=2∨i=3∨i=4∨i=5∨i=6∨i=7∨i=8∨i=9∨i=10∨i=11∨i=12∨i=13∨i=14∨i=15∨i=16∨i=17∨i=18∨i=19∨i=20∨i=21∨i=22∨i=23∨i=24∨i=25∨i=26∨i=27∨i=28∨i=29) with rfl | rfl | rfl | rfl | rfl | rfl | rfl | rfl | rfl | rfl | rfl | rfl | rfl | rfl | rfl | rfl | rfl | rfl | rfl | rfl | rfl | rfl | rfl | rfl | rfl | rfl | rfl | rfl | rfl | rfl
    all_goals (rw [←hL]; rfl)
  obtain ⟨j1, j1e⟩:∃ x, Af n h (some (.c (.b L 0) false none))=x := ⟨_, rfl⟩
  have F1:Fr h n j1 n.up 1 := j1e ▸ Fr.put (by omega) _
  have y1:A8 n j1=some (.c (cb (zer L)) false none) := by rw [←j1e, cb_zer]; exact A6 _ _ _
  have emk:∀ κ:KV, FU 1 true [iB 0] (.int .i64 L) (.int .i64 L) h n κ=κ (.sl n 0 L L true 1) j1 n.up := fun κ => (WB (by omega) (Nat.le_refl _) (by omega) _ rfl _ _ (by show L<9223372036854775808; omega) (by show L<9223372036854775808; omega) h κ).trans (by rw [j1e])
  have eb1:∀ κ:V->R, C4 (.sl n 0 L L true 1) j1 κ=κ (sb (zer L)) := fun κ => (E5 y1 (by rw [zer_len]; omega) κ).trans (by rw [List.drop_zero, List.take_of_length_le (by rw [zer_len]; omega)])
  have ln1:∀ κ:V->R, B0 (sb (zer L)) κ=κ (.int .i64 L) := fun κ => (Fe (zer L) (by rw [zer_len]; omega) κ).trans (by rw [zer_len])
  obtain ⟨j2, n2, e2, F2⟩ := dec_ok (m := m+2) (k := L) (h := j1) (n := n.up) (by omega) (by omega) (F1.2.2.2 hf)
  have w2 := F2.2.1
  have w2' := F2.1
  have u2 := K4.up_toN (p := n2) (by omega)
  have p0:∀ κ:List V->R, Ag 0 (.str 14 2118593076047644386086300223958851) [.str 0 0, .str 0 0] κ=κ [.str 14 2118593076047644386086300223958851, .str 0 0] := fun κ => rfl
  have p1:∀ κ:List V->R, Ag 1 (sb (decB L)) [.str 14 2118593076047644386086300223958851, .str 0 0] κ=κ [.str 14 2118593076047644386086300223958851, sb (decB L)] := fun κ => rfl
  obtain ⟨jz, jze⟩:∃ x, Af n2 j2 (some (.c (.l [.str 0 0, .str 0 0]) false none))=x := ⟨_, rfl⟩
  have Fz:Fr j2 n2 jz n2.up 1 := jze ▸ Fr.put (by omega) _
  have yz:A8 n2 jz=some (.c (.l [.str 0 0, .str 0 0]) false none) := by rw [←jze]; exact A6 _ _ _
  obtain ⟨j3, j3e⟩:∃ x, Af n2 jz (some (.c (.l [sb clL, sb (decB L)]) false none))=x := ⟨_, rfl⟩
  have F3:Fr j2 n2 j3 n2.up 1 := j3e ▸ Fz.set (Nat.le_refl _) (by omega) _
  have y3:A8 n2 j3=some (.c (.l [sb clL, sb (decB L)]) false none) := by rw [←j3e]; exact A6 _ _ _
  have s3:∀ κ:Heap->R, Bn 2 (.ptr n2 0) (.agg [.str 14 2118593076047644386086300223958851, sb (decB L)]) jz κ=κ j3 := fun κ => (st2_all yz κ).trans (by rw [←j3e, clL_e])
  have G3 := (F1.trans F2).trans F3
  cases hc:chAt l i with
  | false =>
    have O3:E8 lo n2.up j3 bv acc := O.frame (by omega) fun q _ hq => G3.2.2.1 q hq
    obtain ⟨h', n', bv', eT, O', b1, b2, o', r'⟩ := mT_ok (m := m) (nn := nn) (i := i) (cv := cv) (body := zer L) O3 (by omega) hacc y3 (by omega) hi (tokCL m) (fun h n => by rw [←hL]; exact valDE m h n i hi) (by have := dec_len L; show 14+_<_; omega) (by rw [zer_len]; omega) (G3.2.2.2 hf) (by omega)
    simp only [mst,Q0] at eT
    have hm:msgB i false=headB [77] (decB i) clL (decB L)++zer L := by rw [←hL]; rfl
    refine ⟨h', n', bv', sb (zer L), .ptr n2 0, ?_, by rw [hm]; exact O', by omega, by omega, fun q hq => (o' q hq).trans (G3.2.2.1 q (by omega)), r'⟩
    unfold mA
    by_cases hil:i<l.length
    · rcases hcv with ⟨_, rfl⟩ | rfl
      · cases hil
      have hdr:(l.map RV.b).drop i=RV.b false::(l.map RV.b).drop (i+1) := by
        rw [List.drop_eq_getElem_cons (by simpa using hil)]
        have:l[i]=false := by unfold chAt at hc; rw [List.getElem?_eq_getElem hil] at hc; exact hc
        simp [this]
      simp (config := {maxSteps := 3000000}) (disch := omega) only [qa,g0,g1,g2,g3,g4,g5,g6,g7,g8,g9,BC,BF,C0,BR,BI,BK,BM,BY,BT,BU,w0,w1,w2,w3,w4,w5,w6,w7,w8,w9,BD,BB,BS,BP,BV,BQ,BH,BO,BL,BN,Mk,Nat.reduceAdd,Nat.reduceSub,Nat.reduceMul,Nat.reduceMod,Nat.reduceDiv,Q0,U,emul,emk,eb1,ln1,e2,p0,p1,jze,s3,hl,decide_eq_true hil,Wj,hdr,Wa,rvb_v,eT,Am,Av,AN,AP,AO,AQ]
    · simp (config := {maxSteps := 3000000}) (disch := omega) only [qa,g0,g1,g2,g3,g4,g5,g6,g7,g8,g9,BC,BF,C0,BR,BI,BK,BM,BY,BT,BU,w0,w1,w2,w3,w4,w5,w6,w7,w8,w9,BD,BB,BS,BP,BV,BQ,BH,BO,BL,BN,Mk,Nat.reduceAdd,Nat.reduceSub,Nat.reduceMul,Nat.reduceMod,Nat.reduceDiv,Q0,U,emul,emk,eb1,ln1,e2,p0,p1,jze,s3,hl,decide_eq_false hil,eT,Am,Av,AN,AP,AO,AQ]
  | true =>
    have hil:i<l.length := by
      rcases Nat.lt_or_ge i l.length with h | h
      · exact h
      · unfold chAt at hc; rw [List.getElem?_eq_none h] at hc; cases hc
    obtain ⟨j4, j4e⟩:∃ x, Af n2 j3 (some (.c (.l [sb teL, sb chL]) false none))=x := ⟨_, rfl⟩
    have G4:Fr h n j4 n2.up _ := j4e ▸ G3.set (by omega) (by omega) _
    have y4:A8 n2 j4=some (.c (.l [sb teL, sb chL]) false none) := by rw [←j4e]; exact A6 _ _ _
    have s4:∀ κ:Heap->R, Bn 2 (.ptr n2 0) (.agg [.str 17 35195846100629207368392487591500390167124, .str 7 28259009760159843]) j3 κ=κ j4 := fun κ => (st2_all y3 κ).trans (by rw [←j4e, teL_e, chL_e])
    have t0:∀ κ:List V->R, Ag 0 (.str 17 35195846100629207368392487591500390167124) [.str 0 0, .str 0 0] κ=κ [.str 17 35195846100629207368392487591500390167124, .str 0 0] := fun κ => rfl
    have t1:∀ κ:List V->R, Ag 1 (.str 7 28259009760159843) [.str 17 35195846100629207368392487591500390167124, .str 0 0] κ=κ [.str 17 35195846100629207368392487591500390167124, .str 7 28259009760159843] := fun κ => rfl
    have u3 := K4.up_toN (p := n2.up) (by omega)
    obtain ⟨j5, j5e⟩:∃ x, Af n2.up j4 (some (.c (.l [.int .i64 5, .int .i64 1]) false none))=x := ⟨_, rfl⟩
    have F5:Fr j4 n2.up j5 n2.up.up 1 := j5e ▸ Fr.put (by omega) _
    have y5:A8 n2.up j5=some (.c (.l [.int .i64 5, .int .i64 1]) false none) := by rw [←j5e]; exact A6 _ _ _
    have i0:∀ κ:List V->R, Ag 0 (.int .i64 5) [.int .i64 0, .int .i64 0] κ=κ [.int .i64 5, .int .i64 0] := fun κ => rfl
    have i1:∀ κ:List V->R, Ag 1 (.int .i64 1) [.int .i64 5, .int .i64 0] κ=κ [.int .i64 5, .int .i64 1] := fun κ => rfl
    have G5 := G4.trans F5
    obtain ⟨j6, n6, q, e6, q6, q6', F6⟩ := doc_chunks (m := m+1) (L := L) (h := j5) (n := n2.up.up) y5 (by omega) (by omega) (by omega) (G5.2.2.2 hf)
    have w6 := F6.2.1
    have w6' := F6.1
    have G6 := G5.trans F6
    have y6:A8 n2 j6=some (.c (.l [sb teL, sb chL]) false none) := (F6.2.2.1 n2 (by omega)).trans ((F5.2.2.1 n2 (by omega)).trans y4)
    have eb6:∀ κ:V->R, C4 (.sl q 0 (encB (chsB L)).length (encB (chsB L)).length false 1) j6 κ=κ (sb (encB (chsB L))) := fun κ => (E5 q6 (by omega) κ).trans (by rw [List.drop_zero, List.take_length])
    have O6:E8 lo n6 j6 bv acc := O.frame (by omega) fun q _ hq => G6.2.2.1 q hq
    have hel := encB_len (L := L) (by omega)
    obtain ⟨h', n', bv', eT, O', b1, b2, o', r'⟩ := mT_ok (m := m) (nn := nn) (i := i) (cv := cv) (body := encB (chsB L)) O6 (by omega) hacc y6 (by omega) hi (tokTE m) (valCH m) (by decide) (by omega) (G6.2.2.2 hf) (by omega)
    simp only [mst,Q0] at eT
    have hm:msgB i true=headB [77] (decB i) teL chL++encB (chsB L) := by rw [←hL]; rfl
    rcases hcv with ⟨_, rfl⟩ | rfl
    · cases hil
    have hdr:(l.map RV.b).drop i=RV.b true::(l.map RV.b).drop (i+1) := by
      rw [List.drop_eq_getElem_cons (by simpa using hil)]
      have:l[i]=true := by unfold chAt at hc; rw [List.getElem?_eq_getElem hil] at hc; exact hc
      simp [this]
    refine ⟨h', n', bv', sb (encB (chsB L)), .ptr n2 0, ?_, by rw [hm]; exact O', by omega, by omega, fun q hq => (o' q hq).trans (G6.2.2.1 q (by omega)), r'⟩
    unfold mA
    simp (config := {maxSteps := 3000000}) (disch := omega) only [qa,g0,g1,g2,g3,g4,g5,g6,g7,g8,g9,BC,BF,C0,BR,BI,BK,BM,BY,BT,BU,w0,w1,w2,w3,w4,w5,w6,w7,w8,w9,BD,BB,BS,BP,BV,BQ,BH,BO,BL,BN,Mk,Nat.reduceAdd,Nat.reduceSub,Nat.reduceMul,Nat.reduceMod,Nat.reduceDiv,Q0,U,emul,emk,eb1,ln1,e2,p0,p1,jze,s3,hl,decide_eq_true hil,Wj,hdr,Wa,rvb_v,t0,t1,s4,i0,i1,j5e,e6,eb6,eT,Am,Av,AN,AP,AO,AQ]
def restB (l:List Bool):Nat->Nat->List UInt8
  | 0, _ => []
  | j+1, i => msgB i (chAt l i)++restB l j (i+1)
theorem mA_loop {m nn lo:Nat} {cv:V} {l:List Bool} (hnn:nn≤30) (hcv:BVd cv l) (hlen:l.length<9223372036854775808):∀ (j i:Nat) (acc:List UInt8) (h:Heap) (n:K4) (bv d5 d6:V), i+j=nn->E8 lo n h bv acc->lo≤n.toN->acc.length≤1000*i->Bc h n->n.toN+300*j<44000 →
    ∃ h' n' bv' d5' d6', (∀ K, Jy (mA (Ar tab (m+4))) (K+j+1) (mst nn cv bv i d5 d6) h n = .ok (.exit 0) (mst nn cv bv' nn d5' d6') h' n')∧E8 lo n' h' bv' (acc++restB l j i)∧n.toN≤n'.toN∧n'.toN≤n.toN+300*j∧(∀ q:K4, q.toN<lo->A8 q h'=A8 q h)∧Bc h' n' := by
  intro j
  induction j with
  | zero =>
    intro i acc h n bv d5 d6 hi O hlo ha hf hn
    obtain rfl:i=nn := by omega
    refine ⟨h, n, bv, d5, d6, fun K => ?_, by show E8 lo n h bv (acc++[]); rw [List.append_nil]; exact O, Nat.le_refl _, by omega, fun _ _ => rfl, hf⟩
    rw [Cg]
    unfold mA
    simp (config := {maxSteps := 3000000}) (disch := omega) only [qa,g0,g1,g2,g3,g4,g5,g6,g7,g8,g9,BC,BF,C0,BR,BI,BK,BM,BY,BT,BU,w0,w1,w2,w3,w4,w5,w6,w7,w8,w9,BD,BB,BS,BP,BV,BQ,BH,BO,BL,BN,Mk,Nat.reduceAdd,Nat.reduceSub,Nat.reduceMul,Nat.reduceMod,Nat.reduceDiv,Q0,U,Am,Av,AN,AP,AO,AQ]
  | succ j ih =>
    intro i acc h n bv d5 d6 hi O hlo ha hf hn
    obtain ⟨h1, n1, bv1, d51, d61, e1, O1, b1, b2, o1, r1⟩ := mA_ok (m := m) (nn := nn) (i := i) (d5 := d5) (d6 := d6) O hlo (by omega) (by omega) (by omega) hnn hcv hlen hf (by omega)
    have hml := msg_len (i := i) (chAt l i) (by omega)
    obtain ⟨h', n', bv', d5', d6', e, O', c1, c2, o', r'⟩ := ih (i+1) _ h1 n1 bv1 d51 d61 (by omega) O1 (by omega) (by rw [List.length_append]; omega) r1 (by omega)
    refine ⟨h', n', bv', d5', d6', fun K => ?_, by rw [List.append_assoc] at O'; exact O', by omega, by omega, fun q hq => (o' q hq).trans (o1 q hq), r'⟩
    rw [show K+(j+1)+1=(K+j+1)+1 by omega, Cg, e1, EC]
    exact e K
theorem zer_app (a b:Nat):zer a++zer b=zer (a+b) := by unfold zer; rw [List.replicate_append_replicate]
theorem dat_chs (L:Nat):datB (chsB L)=zer L := by
  unfold chsB
  rcases Nat.eq_zero_or_pos L with rfl | h0
  · rfl
  rw [if_neg (by omega)]
  rcases Nat.lt_or_ge 5 L with h5 | h5
  · rw [if_neg (by omega)]
    rcases Nat.lt_or_ge 6 L with h6 | h6
    · rw [if_neg (by omega)]
      show zer 5++(zer 1++(zer (L - 6)++[]))=_
      rw [List.append_nil, zer_app, zer_app, show 5+(1+(L - 6))=L by omega]
    · rw [if_pos (by omega)]
      show zer 5++(zer 1++[])=_
      rw [List.append_nil, zer_app, show 5+1=L by omega]
  · rw [if_pos (by omega)]
    show zer L++[]=_
    rw [List.append_nil]
theorem hx_dig (m d:Nat) (hd:d<16) (h:Heap) (n:K4):Ar tab (m+2) ⟨.d0, .d7, .d2⟩ [sb [hdC d]] h n = .rv (.tup [.int .i64 d, .bool true]) h n := by
  rcases (by omega:d=0∨d=1∨d=2∨d=3∨d=4∨d=5∨d=6∨d=7∨d=8∨d=9∨d=10∨d=11∨d=12∨d=13∨d=14∨d=15) with rfl | rfl | rfl | rfl | rfl | rfl | rfl | rfl | rfl | rfl | rfl | rfl | rfl | rfl | rfl | rfl
  all_goals kernel_rfl
theorem hx_cr (m:Nat) (h:Heap) (n:K4):Ar tab (m+2) ⟨.d0, .d7, .d2⟩ [sb [13]] h n = .rv (.tup [.int .i64 0, .bool false]) h n := by kernel_rfl
theorem hx_all (m k:Nat) (hk:k<90) (h:Heap) (n:K4):Ar tab (m+2) ⟨.d0, .d7, .d2⟩ [sb (hexB k)] h n = .rv (.tup [.int .i64 k, .bool true]) h n := by
  rcases (by omega:k=0∨k=1∨k=2∨k=3∨k=4∨k=5∨k=6∨k=7∨k=8∨k=9∨k=10∨k=11∨k=12∨k=13∨k=14∨k=15∨k=16∨k=17∨k=18∨k=19∨k=20∨k=21∨k=22∨k=23∨k=24∨k=25∨k=26∨k=27∨k=28∨k=29∨k=30∨k=31∨k=32∨k=33∨k=34∨k=35∨k=36∨k=37∨k=38∨k=39∨k=40∨k=41∨k=42∨k=43∨k=44∨k=45∨k=46∨k=47∨k=48∨k=49∨k=50∨k=51∨k=52∨k=53∨k=54∨k=55∨k=56∨k=57∨k=58∨k=59∨k=60∨k=61∨k=62∨k=63∨k=64∨k=65∨k=66∨k=67∨k=68∨k=69∨k=70∨k=71∨k=72∨k=73∨k=74∨k=75∨k=76∨k=77∨k=78∨k=79∨k=80∨k=81∨k=82∨k=83∨k=84∨k=85∨k=86∨k=87∨k=88∨k=89) with rfl | rfl | rfl | rfl | rfl | rfl | rfl | rfl | rfl | rfl | rfl | rfl | rfl | rfl | rfl | rfl | rfl | rfl | rfl | rfl | rfl | rfl | rfl | rfl | rfl | rfl | rfl | rfl | rfl | rfl | rfl | rfl | rfl | rfl | rfl | rfl | rfl | rfl | rfl | rfl | rfl | rfl | rfl | rfl | rfl | rfl | rfl | rfl | rfl | rfl | rfl | rfl | rfl | rfl | rfl | rfl | rfl | rfl | rfl | rfl | rfl | rfl | rfl | rfl | rfl | rfl | rfl | rfl | rfl | rfl | rfl | rfl | rfl | rfl | rfl | rfl | rfl | rfl | rfl | rfl | rfl | rfl | rfl | rfl | rfl | rfl | rfl | rfl | rfl | rfl
  all_goals kernel_rfl
theorem hx_ok (m:Nat) {k:Nat} (hk:k<90):Hx m (hexB k) k := by
  refine ⟨hx_cr m, ?_, hx_all m k hk, ?_, ?_⟩
  · intro x hx
    unfold hexB at hx
    by_cases h:k<16
    · rw [if_pos h] at hx
      cases hx with
      | head => exact ⟨k, hx_dig m k h⟩
      | tail _ h => cases h
    · rw [if_neg h] at hx
      cases hx with
      | head => exact ⟨k / 16, hx_dig m _ (by omega)⟩
      | tail _ hx => cases hx with
        | head => exact ⟨k % 16, hx_dig m _ (Nat.mod_lt _ (by decide))⟩
        | tail _ h => cases h
  · unfold hexB; by_cases h:k<16
    · rw [if_pos h]; show 1≤1; omega
    · rw [if_neg h]; show 1≤2; omega
  · exact Nat.le_trans (hexB_len k) (by decide)
theorem hx_0 (m:Nat):Hx m [48] 0 := hx_ok m (k := 0) (by decide)
theorem chs_hx (m:Nat) {L:Nat} (hL:L<90):∀ x∈chsB L, Hx m x.1 x.2.length∧1≤x.2.length := by
  intro x hx
  unfold chsB at hx
  have key:∀ k, k<90->1≤k->Hx m (hexB k, zer k).1 (hexB k, zer k).2.length∧1≤(hexB k, zer k).2.length := fun k h1 h2 => by
    show Hx m (hexB k) (zer k).length∧1≤(zer k).length
    rw [zer_len]; exact ⟨hx_ok m h1, h2⟩
  rcases Nat.eq_zero_or_pos L with rfl | h0
  · cases hx
  rw [if_neg (by omega)] at hx
  rcases Nat.lt_or_ge 5 L with h5 | h5
  · rw [if_neg (by omega)] at hx
    rcases Nat.lt_or_ge 6 L with h6 | h6
    · rw [if_neg (by omega)] at hx
      cases hx with
      | head => exact key 5 (by decide) (by decide)
      | tail _ hx => cases hx with
        | head => exact key 1 (by decide) (by decide)
        | tail _ hx => cases hx with
          | head => exact key (L - 6) (by omega) (by omega)
          | tail _ h => cases h
    · rw [if_pos (by omega)] at hx
      cases hx with
      | head => exact key 5 (by decide) (by decide)
      | tail _ hx => cases hx with
        | head => exact key 1 (by decide) (by decide)
        | tail _ h => cases h
  · rw [if_pos (by omega)] at hx
    cases hx with
    | head => exact key L hL h0
    | tail _ h => cases h
theorem chs_len (L:Nat):(chsB L).length<100 := by
  unfold chsB
  split
  · decide
  · split
    · show 1<100; decide
    · split
      · show 2<100; decide
      · show 3<100; decide
theorem num_ok (m:Nat) (h:Heap) (n:K4) {i:Nat} (hi:i<30):Ar tab (m+5) ⟨.d0, .d5, .d1⟩ [sb (decB (i*3))] h n = .rv (.tup [.int .i64 (i*3), .bool true]) h n := by
  rcases (by omega:i=0∨i=1∨i=2∨i=3∨i=4∨i=5∨i=6∨i=7∨i=8∨i=9∨i=10∨i=11∨i=12∨i=13∨i=14∨i=15∨i=16∨i=17∨i=18∨i=19∨i=20∨i=21∨i=22∨i=23∨i=24∨i=25∨i=26∨i=27∨i=28∨i=29) with rfl | rfl | rfl | rfl | rfl | rfl | rfl | rfl | rfl | rfl | rfl | rfl | rfl | rfl | rfl | rfl | rfl | rfl | rfl | rfl | rfl | rfl | rfl | rfl | rfl | rfl | rfl | rfl | rfl | rfl
  all_goals kernel_rfl
theorem fact1:∀ i, i<30->([77]++32::(decB i++32::verL)).all plainB=true := by decide +kernel
theorem fact2:∀ i, i<30->∀ c:Bool, (tokB (nmB c)&&decide (trimB (32::wB i c)=wB i c)&&valB (wB i c)&&(nmB c++58::(32::wB i c)).all plainB)=true := by decide +kernel
theorem next_msg {m i o N:Nat} {c:Bool} {mp bp:K4} {ex s:Bool} {pr:Option K4} {l0 rest:List UInt8} {h:Heap} {n:K4} (hi:i<30) (hm:A8 mp h=some (.c (.l [.sl bp o N N ex 1, .int .i64 0]) false none)) (hp:A8 bp h=some (.c (cb l0) s pr)) (hmn:mp.toN<n.toN) (hbn:bp.toN<n.toN) (ho:o+N=l0.length) (hN:N<900000000) (ha:At l0 o (msgB i c++rest)) (hn:n.toN<50000) :
    ∃ h' n' q, Ar tab (m+11) ⟨.d0, .d0, .d13⟩ [.ptr mp 0] h n = .rv (.tup [.agg [sb [77], sb (decB i), .sl q 0 1 1 false 2, sb (zer (i*3))], .int .i64 0]) h' n'∧A8 mp h'=some (.c (.l [.sl bp (o+(msgB i c).length) (N - (msgB i c).length) (N - (msgB i c).length) ex 1, .int .i64 0]) false none)∧n.toN≤n'.toN∧n'.toN≤n.toN+24∧(∀ x:K4, x.toN<n.toN->x≠mp->A8 x h'=A8 x h)∧(Bc h n->Bc h' n') := by
  have u1 := K4.up_toN (p := n) (by omega)
  have fa := fact2 i hi c
  rw [Bool.and_eq_true_iff, Bool.and_eq_true_iff, Bool.and_eq_true_iff] at fa
  obtain ⟨⟨⟨f1, f2⟩, f3⟩, f4⟩ := fa
  have f2 := of_decide_eq_true f2
  have hdl := dec_len i
  have hnl := nm_len c
  have hwl := w_len i c
  have hbl := body_lenB c hi
  have hml := msg_len c hi
  obtain ⟨T, hT⟩:∃ x, ([77]++32::(decB i++32::verL)).length+(nmB c++58::(32::wB i c)).length+6=x := ⟨_, rfl⟩
  have hv11:v11.length=11 := rfl
  have hver:verL.length=8 := rfl
  have hTM:(msgB i c).length=T+(bodyB i c).length := by
    rw [←hT]; simp only [msgB,headB,List.length_append,List.length_cons,List.length_nil,hv11,hver]; omega
  have a0:At l0 o (([77]++32::(decB i++32::verL))++13::10::((nmB c++58::(32::wB i c))++13::10::13::10::(bodyB i c++rest))) := by
    have e:msgB i c++rest=([77]++32::(decB i++32::verL))++13::10::((nmB c++58::(32::wB i c))++13::10::13::10::(bodyB i c++rest)) := by
      rw [←headB_e]; unfold msgB; rw [List.append_assoc]
    rw [←e]; exact ha
  have hle := At.le ha (by rw [List.length_append, hTM, ←hT]; omega)
  rw [List.length_append] at hle
  have hTN:T+(bodyB i c).length≤N := by omega
  have aT:At l0 (o+T) (bodyB i c++rest) := by
    have e:msgB i c++rest=headB [77] (decB i) (nmB c) (wB i c)++(bodyB i c++rest) := by unfold msgB; rw [List.append_assoc]
    have hh:(headB [77] (decB i) (nmB c) (wB i c)).length=T := by
      have:(msgB i c).length=(headB [77] (decB i) (nmB c) (wB i c)).length+(bodyB i c).length := by unfold msgB; rw [List.length_append]
      omega
    have := (At.app (e ▸ ha)).2
    rw [hh] at this; exact this
  have u1 := K4.up_toN (p := n) (by omega)
  have F1:Fr h n (Af n h (some (.c (.l zrq) false none))) n.up 1 := Fr.put (by omega) _
  have hm1:A8 mp (Af n h (some (.c (.l zrq) false none)))=some (.c (.l [.sl bp o N N ex 1, .int .i64 0]) false none) := (F1.2.2.1 mp hmn).trans hm
  have hp1:A8 bp (Af n h (some (.c (.l zrq) false none)))=some (.c (cb l0) s pr) := (F1.2.2.1 bp hbn).trans hp
  obtain ⟨j2, n2, q, e2, F2⟩ := next_ok (m := m) (mp := mp) (bp := bp) (o := o) (N := N) (T := T) (M := (bodyB i c).length) (ex := ex) (n := n.up) (me := [77]) (ta := decB i) (nm := nmB c) (w := wB i c) (dat := zer (i*3)) (bb := c) (kk := bif c then 0 else i*3) (X := some (.c (cb l0) s pr)) hm1 (by omega) (by omega) hp1
    (fun h n hb hbn hn => by
      obtain ⟨h', n', q, e, k1, k2, k3, k4, k5, k6, k7⟩ := read_ok (m := m) (ex := ex) (n := n) hb ho hN a0 (by decide) (tar_dec i hi) f1 f2 f3 (by omega) (fun x hx => List.all_eq_true.1 (fact1 i hi) x hx) (fun x hx => List.all_eq_true.1 f4 x hx) (by show 1+_+_+(_+1)<_; omega) hbn hn
      rw [hT] at e
      exact ⟨h', n', q, e, k1, k2, k3, k4, k5, k6, k7⟩)
    (fun h n q hq hqn hn => by
      cases c with
      | true =>
        obtain ⟨h', n', e, k⟩ := which_ch (m := m+3) (n := n) hq hqn hn
        exact ⟨h', n', e, k⟩
      | false =>
        obtain ⟨h', n', e, k⟩ := which_len (m := m+3) (k := i*3) (n := n) hq hqn (by omega) (fun h n => num_ok (m+3) h n hi) hn
        exact ⟨h', n', e, k⟩)
    (fun h n hb hbn hn => by
      cases c with
      | true =>
        obtain ⟨h', n', e, k⟩ := body_ch (m := m+4) (o := o+T) (N := N - T) (ex := ex) (n := n) (tl := rest) (cs := chsB (i*3)) (hx_0 _) hb hbn (by omega) (by omega) aT (by rw [dat_chs, zer_len]; omega) (chs_len _) (chs_hx _ (by omega)) (by omega)
        rw [dat_chs] at e
        exact ⟨h', n', e, k⟩
      | false =>
        obtain ⟨h', n', e, k⟩ := body_len (m := m+4) (k := i*3) (o := o+T) (N := N - T) (ex := ex) (n := n) (d := zer (i*3)) hb hbn (by omega) (by omega) (At.app aT).1 (zer_len _) (by have:(bodyB i false).length=i*3 := zer_len _; omega) (by omega)
        have hz:(bodyB i false).length=i*3 := zer_len _
        rw [hz]
        exact ⟨h', n', e, k⟩)
    (by omega) hN (by omega) (by omega)
  obtain ⟨h', n', e, k⟩ := Next_ok (m := m) (mp := mp) (n := n) (T := T+(bodyB i c).length) (E := 0) (C := 22) (bv := .sl bp o N N ex 1) (bv' := .sl bp (o+(T+(bodyB i c).length)) (N - (T+(bodyB i c).length)) (N - (T+(bodyB i c).length)) ex 1) hm hmn (.inl rfl) (by decide) ⟨j2, n2, e2, F2⟩ (fun κ => ST hTN (Nat.le_refl _) (by omega) κ) (fun h κ => DB h mp 0 _ κ) (by omega)
  rw [hTM]
  exact ⟨h', n', q, e, k⟩
abbrev mbt (nn:Nat) (cv bv d5 d6:V) (mp:K4) (i:Nat):S := .mk (.mk (.int .i64 nn) cv (.bool false) bv) (.mk (.int .i64 nn) d5 d6 (.ptr mp 0)) (.mk (.int .i64 i) Ay Ay Ay) Q0 Q0 Q0 Q0 Q0
theorem gd00 (F:R->R) (r:R):ZC false (.bool false) F r=F r := id rfl
theorem mB_ok {m nn i o N:Nat} {cv bv d5 d6:V} {c:Bool} {mp bp:K4} {ex s:Bool} {pr:Option K4} {l0 rest:List UInt8} {h:Heap} {n:K4} (hin:i<nn) (hi:i<30) (hnn:nn≤30) (hm:A8 mp h=some (.c (.l [.sl bp o N N ex 1, .int .i64 0]) false none)) (hp:A8 bp h=some (.c (cb l0) s pr)) (hmn:mp.toN<n.toN) (hbn:bp.toN<n.toN) (hne:bp≠mp) (ho:o+N=l0.length) (hN:N<900000000) (ha:At l0 o (msgB i c++rest)) (hf:Bc h n) (hn:n.toN<45000) :
    ∃ h' n', mB (Ar tab (m+11)) (mbt nn cv bv d5 d6 mp i) h n = .ok .nrm (mbt nn cv bv d5 d6 mp (i+1)) h' n'∧A8 mp h'=some (.c (.l [.sl bp (o+(msgB i c).length) (N - (msgB i c).length) (N - (msgB i c).length) ex 1, .int .i64 0]) false none)∧A8 bp h'=some (.c (cb l0) s pr)∧n.toN≤n'.toN∧n'.toN≤n.toN+100∧Bc h' n' := by
  obtain ⟨j1, n1, q, e1, m1, b1, b2, f1, r1⟩ := next_msg (m := m) (c := c) (n := n) hi hm hp hmn hbn ho hN ha (by omega)
  have u1 := K4.up_toN (p := n1) (by omega)
  obtain ⟨L, hL⟩:∃ x, i*3=x := ⟨_, rfl⟩
  rw [hL] at e1
  have emul:∀ κ:V->R, Fd (.int .i64 i) (.int .i64 3) κ=κ (.int .i64 L) := fun κ => by
    rcases (by omega:i=0∨i=1∨i=2∨i=3∨i=4∨i=5∨i=6∨i=7∨i=8∨i=9∨i=10∨i=11∨i=12∨i=13∨i=14∨i=15∨i=16∨i=17∨i=18∨i=19∨i=20∨i=21∨i=22∨i=23∨i=24∨i=25∨i=26∨i=27∨i=28∨i=29) with rfl | rfl | rfl | rfl | rfl | rfl | rfl | rfl | rfl | rfl | rfl | rfl | rfl | rfl | rfl | rfl | rfl | rfl | rfl | rfl | rfl | rfl | rfl | rfl | rfl | rfl | rfl | rfl | rfl | rfl
    all_goals (rw [←hL]; rfl)
  obtain ⟨jz, jze⟩:∃ x, Af n1 j1 (some (.c (.l [.str 0 0, .str 0 0, .nil .sl, .str 0 0]) false none))=x := ⟨_, rfl⟩
  have Fz:Fr j1 n1 jz n1.up 1 := jze ▸ Fr.put (by omega) _
  have yz:A8 n1 jz=some (.c (.l [.str 0 0, .str 0 0, .nil .sl, .str 0 0]) false none) := by rw [←jze]; exact A6 _ _ _
  obtain ⟨j3, j3e⟩:∃ x, Af n1 jz (some (.c (.l [sb [77], sb (decB i), .sl q 0 1 1 false 2, sb (zer L)]) false none))=x := ⟨_, rfl⟩
  have F3:Fr j1 n1 j3 n1.up 1 := j3e ▸ Fz.set (Nat.le_refl _) (by omega) _
  have y3:A8 n1 j3=some (.c (.l [sb [77], sb (decB i), .sl q 0 1 1 false 2, sb (zer L)]) false none) := by rw [←j3e]; exact A6 _ _ _
  have s3:∀ κ:Heap->R, Bn 4 (.ptr n1 0) (.agg [sb [77], sb (decB i), .sl q 0 1 1 false 2, sb (zer L)]) jz κ=κ j3 := fun κ => (st4_all yz κ).trans (by rw [j3e])
  obtain ⟨j4, n4, e4, F4⟩ := dec_ok (m := m+9) (k := i) (h := j3) (n := n1.up) (by omega) (by omega) (F3.2.2.2 (r1 hf))
  have w4 := F4.2.1
  have w4' := F4.1
  have y4:A8 n1 j4=some (.c (.l [sb [77], sb (decB i), .sl q 0 1 1 false 2, sb (zer L)]) false none) := (F4.2.2.1 n1 (by omega)).trans y3
  have a1:∀ κ:V->R, Lj (some (.c (.l [sb [77], sb (decB i), .sl q 0 1 1 false 2, sb (zer L)]) false none)) 1 κ=κ (sb (decB i)) := fun κ => rfl
  have a3:∀ κ:V->R, Lj (some (.c (.l [sb [77], sb (decB i), .sl q 0 1 1 false 2, sb (zer L)]) false none)) 3 κ=κ (sb (zer L)) := fun κ => rfl
  have en:∀ κ:V->R, B4 (sb (decB i)) (sb (decB i)) κ=κ (.bool false) := fun κ => (TI _ _ κ).trans (by rw [decide_eq_false (fun h => h rfl)])
  have ln:∀ κ:V->R, B0 (sb (zer L)) κ=κ (.int .i64 L) := fun κ => (Fe (zer L) (by rw [zer_len]; omega) κ).trans (by rw [zer_len])
  have eL:∀ κ:V->R, B4 (.int .i64 L) (.int .i64 L) κ=κ (.bool false) := fun κ => by
    show br (Nat.beq L L) (κ (.bool false)) (κ (.bool true))=_
    rw [Nat.beq_refl, Ac]
  refine ⟨j4, n4, ?_, (F4.2.2.1 mp (by omega)).trans ((F3.2.2.1 mp (by omega)).trans m1), (F4.2.2.1 bp (by omega)).trans ((F3.2.2.1 bp (by omega)).trans ((f1 bp hbn hne).trans hp)), by omega, by omega, F4.2.2.2 (F3.2.2.2 (r1 hf))⟩
  unfold mB
  simp (config := {maxSteps := 3000000}) (disch := omega) only [qa,g0,g1,g2,g3,g4,g5,g6,g7,g8,g9,BC,BF,C0,BR,BI,BK,BM,BY,BT,BU,w0,w1,w2,w3,w4,w5,w6,w7,w8,w9,BD,BB,BS,BP,BV,BQ,BH,BO,BL,BN,Mk,Nat.reduceAdd,Nat.reduceSub,Nat.reduceMul,Nat.reduceMod,Nat.reduceDiv,Q0,U,e1,jze,s3,y3,y4,a1,a3,e4,en,ln,emul,eL,same_sb,gd00,Am,Av,AN,AP,AO,AQ]
theorem mB_loop {m nn:Nat} {cv bv d5 d6:V} {l:List Bool} {mp bp:K4} {ex s:Bool} {pr:Option K4} {l0:List UInt8} (hnn:nn≤30) (hne:bp≠mp) (hl0:l0.length<900000000):∀ (j i o N:Nat) (h:Heap) (n:K4), i+j=nn->A8 mp h=some (.c (.l [.sl bp o N N ex 1, .int .i64 0]) false none)->A8 bp h=some (.c (cb l0) s pr)->mp.toN<n.toN->bp.toN<n.toN->o+N=l0.length->l0.drop o=restB l j i->Bc h n->n.toN+100*j<45000 →
    ∃ h' n' o', (∀ K, Jy (mB (Ar tab (m+11))) (K+j+1) (mbt nn cv bv d5 d6 mp i) h n = .ok (.exit 2) (mbt nn cv bv d5 d6 mp nn) h' n')∧A8 mp h'=some (.c (.l [.sl bp o' 0 0 ex 1, .int .i64 0]) false none)∧mp.toN<n'.toN∧n'.toN≤n.toN+100*j∧Bc h' n' := by
  intro j
  induction j with
  | zero =>
    intro i o N h n hi hm hp hmn hbn ho hd hf hn
    obtain rfl:i=nn := by omega
    have hlen := congrArg List.length hd
    rw [List.length_drop] at hlen
    have hlen:l0.length - o=0 := hlen
    obtain rfl:N=0 := by omega
    refine ⟨h, n, o, fun K => ?_, hm, hmn, by omega, hf⟩
    rw [Cg]
    unfold mB
    simp (config := {maxSteps := 3000000}) (disch := omega) only [qa,g0,g1,g2,g3,g4,g5,g6,g7,g8,g9,BC,BF,C0,BR,BI,BK,BM,BY,BT,BU,w0,w1,w2,w3,w4,w5,w6,w7,w8,w9,BD,BB,BS,BP,BV,BQ,BH,BO,BL,BN,Mk,Nat.reduceAdd,Nat.reduceSub,Nat.reduceMul,Nat.reduceMod,Nat.reduceDiv,Q0,U,Am,Av,AN,AP,AO,AQ]
  | succ j ih =>
    intro i o N h n hi hm hp hmn hbn ho hd hf hn
    have ha:At l0 o (msgB i (chAt l i)++restB l j (i+1)) := ⟨[], by rw [hd, List.append_nil]; rfl⟩
    obtain ⟨h1, n1, e1, m1, p1, b1, b2, r1⟩ := mB_ok (m := m) (nn := nn) (cv := cv) (bv := bv) (d5 := d5) (d6 := d6) (c := chAt l i) (n := n) (by omega) (by omega) hnn hm hp hmn hbn hne ho (by omega) ha hf (by omega)
    have hd1:l0.drop (o+(msgB i (chAt l i)).length)=restB l j (i+1) := by
      rw [←List.drop_drop, hd]
      show (msgB i (chAt l i)++restB l j (i+1)).drop _=_
      rw [List.drop_left]
    have hlen := congrArg List.length hd
    rw [List.length_drop] at hlen
    have hlen:l0.length - o=(msgB i (chAt l i)++restB l j (i+1)).length := hlen
    rw [List.length_append] at hlen
    have hpos:0<(msgB i (chAt l i)).length := by
      simp only [msgB,headB,List.length_append,List.length_cons]; omega
    obtain ⟨h', n', o', e, m', k1, k2, r'⟩ := ih (i+1) (o+(msgB i (chAt l i)).length) (N - (msgB i (chAt l i)).length) h1 n1 (by omega) m1 p1 (by omega) (by omega) (by omega) hd1 r1 (by omega)
    refine ⟨h', n', o', fun K => ?_, m', k1, by omega, r'⟩
    rw [show K+(j+1)+1=(K+j+1)+1 by omega, Cg, e1, EC]
    exact e K
theorem begun18:YO (Ar tab 30 ⟨.d0, .d0, .d7⟩ [] AJ Xu)=true := by kernel_rfl
theorem mm_run {nn:Nat} {cv:V} {l:List Bool} (hcv:BVd cv l) (hlen:l.length<9223372036854775808) (hnn:nn<18446744073709551616) :
    Sj (Ar tab 31 ⟨.d0, .d0, .d3⟩ [.int .i64 nn, cv] AJ Xu)=true := by
  obtain ⟨h1, n1, e1, b1, r1⟩ := WS begun18
  generalize hR:Ar tab 31 ⟨.d0, .d0, .d3⟩ [.int .i64 nn, cv] AJ Xu=R0
  rw [call2_at, show C5 ⟨.d0, .d0, .d3⟩ tab=some x3 from rfl, x3_L, x3L] at hR
  rcases Nat.lt_or_ge nn 9223372036854775808 with hp | hp
  · rcases Nat.lt_or_ge 30 nn with h30 | h30
    · simp (config := {maxSteps := 3000000}) (disch := omega) only [qa,g0,g1,g2,g3,g4,g5,g6,g7,g8,g9,BC,BF,C0,BR,BI,BK,BM,BY,BT,BU,w0,w1,w2,w3,w4,w5,w6,w7,w8,w9,BD,BB,BS,BP,BV,BQ,BH,BO,BL,BN,Mk,Nat.reduceAdd,Nat.reduceSub,Nat.reduceMul,Nat.reduceMod,Nat.reduceDiv,Q0,U,en1,e1,Am,Av,AN,AP,AO,AQ] at hR
      rw [←hR]; rfl
    · obtain ⟨h2, n2, bv, d5, d6, e2, O2, b3, b4, _, r2⟩ := mA_loop (m := 26) (nn := nn) (lo := n1.toN) (cv := cv) h30 hcv hlen nn 0 [] h1 n1 (.nil .sl) Ay Ay (by omega) E8.nil (Nat.le_refl _) (by decide) r1 (by omega)
      rw [List.nil_append] at O2
      have e9 := e2 (999999999 - nn)
      rw [show 999999999 - nn+nn+1=999999999+1 by omega, Cg, ←Cu, show 26+4=30 from rfl] at e9
      simp only [mst,Q0] at e9
      have u2 := K4.up_toN (p := n2) (by omega)
      obtain ⟨h3, e3, m3, F3⟩ := new_ok (m := 29) (h := h2) (n := n2) (by omega)
      have hrl:(restB l nn 0).length<900000000 := by
        have:∀ j i, i+j≤30->(restB l j i).length≤1000*j := by
          intro j
          induction j with
          | zero => intro i _; exact Nat.le_refl _
          | succ j ih =>
            intro i hi
            have h1 := ih (i+1) (by omega)
            have h2 := msg_len (i := i) (chAt l i) (by omega)
            show (msgB i (chAt l i)++restB l j (i+1)).length≤_
            rw [List.length_append]; omega
        have := this nn 0 (by omega)
        omega
      have O3:E8 n1.toN n2.up h3 bv (restB l nn 0) := O2.frame (by omega) fun q _ hq => F3.2.2.1 q hq
      obtain ⟨h4, n4, bv', e4, m4, O4, b5, b6, f4, r4⟩ := feed_ok (m := 29) (lo := n2.up.toN) (mp := n2) (n := n2.up) m3 (by omega) (Nat.le_refl _) O3.src hrl (by omega)
      have key:∃ h5 n5 bv5, (∀ K, Jy (mB (Ar tab 30)) (K+nn+1) (mbt nn cv bv d5 d6 n2 0) h4 n4 = .ok (.exit 2) (mbt nn cv bv d5 d6 n2 nn) h5 n5)∧A8 n2 h5=some (.c (.l [bv5, .int .i64 0]) false none)∧n2.toN<n5.toN∧n5.toN≤n4.toN+100*nn∧Bc h5 n5∧(bv5 = .nil .sl ∨ ∃ p o ex, bv5 = .sl p o 0 0 ex 1) := by
        rcases O4 with ⟨rfl, hz⟩ | ⟨p, ex, pr, rfl, hp4, hlo, hpn, _⟩
        · have hn0:nn=0 := by
            rcases Nat.eq_zero_or_pos nn with h | h
            · exact h
            · exfalso
              obtain ⟨j, rfl⟩:∃ j, nn=j+1 := ⟨nn - 1, by omega⟩
              have := congrArg List.length hz
              have h2:(msgB 0 (chAt l 0)++restB l j 1).length=0 := this
              rw [List.length_append] at h2
              have hpos:0<(msgB 0 (chAt l 0)).length := by
                simp only [msgB,headB,List.length_append,List.length_cons]; omega
              omega
          subst hn0
          refine ⟨h4, n4, .nil .sl, fun K => ?_, m4, by omega, by omega, r4 (F3.2.2.2 r2), .inl rfl⟩
          rw [Cg]
          unfold mB
          simp (config := {maxSteps := 3000000}) (disch := omega) only [qa,g0,g1,g2,g3,g4,g5,g6,g7,g8,g9,BC,BF,C0,BR,BI,BK,BM,BY,BT,BU,w0,w1,w2,w3,w4,w5,w6,w7,w8,w9,BD,BB,BS,BP,BV,BQ,BH,BO,BL,BN,Mk,Nat.reduceAdd,Nat.reduceSub,Nat.reduceMul,Nat.reduceMod,Nat.reduceDiv,Q0,U,Am,Av,AN,AP,AO,AQ]
        · obtain ⟨h5, n5, o', e5, m5, k1, k2, r5⟩ := mB_loop (m := 19) (nn := nn) (cv := cv) (bv := bv) (d5 := d5) (d6 := d6) (l := l) (mp := n2) (bp := p) (ex := ex) (l0 := restB l nn 0) h30 (K4.ne_of_lt (by omega)).symm hrl nn 0 0 (restB l nn 0).length h4 n4 (by omega) m4 hp4 (by omega) hpn (by omega) rfl (r4 (F3.2.2.2 r2)) (by omega)
          exact ⟨h5, n5, _, e5, m5, k1, k2, r5, .inr ⟨p, o', ex, rfl⟩⟩
      obtain ⟨h5, n5, bv5, e5, m5, k1, k2, r5, hb5⟩ := key
      have e8 := e5 (999999999 - nn)
      rw [show 999999999 - nn+nn+1=999999999+1 by omega, Cg, ←Cu] at e8
      simp only [mbt,Q0] at e8
      have hln:∀ κ:V->R, B3 bv5 κ=κ (.int .i64 0) := fun κ => by
        rcases hb5 with rfl | ⟨p, o, ex, rfl⟩ <;> rfl
      have hsl:∀ κ:V->R, Cw 1 bv5 (some (.int .i64 0)) none κ=κ bv5 := fun κ => by
        rcases hb5 with rfl | ⟨p, o, ex, rfl⟩
        · rfl
        · exact ST (Nat.le_refl _) (Nat.le_refl _) (by decide) κ
      have hst:∀ (h:Heap) (κ:Heap->R), Bb (.ptr n2 0) bv5 h κ=NM (A8 n2 h) h n2 0 bv5 κ := fun h κ => by
        rcases hb5 with rfl | ⟨p, o, ex, rfl⟩ <;> exact DB h n2 0 _ κ
      have u5 := K4.up_toN (p := n5) (by omega)
      have Fz:Fr h5 n5 (Af n5 h5 (some (.c (.l zrq) false none))) n5.up 1 := Fr.put (by omega) _
      obtain ⟨h6, n6, e6, F6⟩ := nextE (m := 19) (mp := n2) (bv := bv5) (h := Af n5 h5 (some (.c (.l zrq) false none))) (n := n5.up) ((Fz.2.2.1 n2 k1).trans m5) (by omega) hln (by omega)
      obtain ⟨h7, n7, e7, m7, c1, c2, _, _⟩ := Next_ok (m := 19) (mp := n2) (n := n5) (T := 0) (E := 11) (C := 4) (bv := bv5) (bv' := bv5) m5 k1 (.inr rfl) (by decide) ⟨h6, n6, e6, F6⟩ hsl hst (by omega)
      rw [show 19+11=30 from rfl] at e7
      have u7 := K4.up_toN (p := n7) (by omega)
      obtain ⟨jz, jze⟩:∃ x, Af n7 h7 (some (.c (.l [.str 0 0, .str 0 0, .nil .sl, .str 0 0]) false none))=x := ⟨_, rfl⟩
      have yz:A8 n7 jz=some (.c (.l [.str 0 0, .str 0 0, .nil .sl, .str 0 0]) false none) := by rw [←jze]; exact A6 _ _ _
      have mz:A8 n2 jz=some (.c (.l [bv5, .int .i64 0]) false none) := by rw [←jze, A7 _ _ (K4.ne_of_lt (by omega)).symm]; exact m7
      obtain ⟨jy, jye⟩:∃ x, Af n7 jz (some (.c (.l [.str 0 0, .str 0 0, .nil .sl, .str 0 0]) false none))=x := ⟨_, rfl⟩
      have sz:∀ κ:Heap->R, Bn 4 (.ptr n7 0) (.agg [.str 0 0, .str 0 0, .nil .sl, .str 0 0]) jz κ=κ jy := fun κ => (st4_all yz κ).trans (by rw [jye])
      have my:A8 n2 jy=some (.c (.l [bv5, .int .i64 0]) false none) := by rw [←jye, A7 _ _ (K4.ne_of_lt (by omega)).symm]; exact mz
      have el := left_ok (m := 29) (mp := n2) (n := n7.up) my hln
      have e3' := e3
      have e4' := e4
      rw [show 29+1=30 from rfl] at e3' e4' el
      simp (config := {maxSteps := 3000000}) (disch := omega) only [qa,g0,g1,g2,g3,g4,g5,g6,g7,g8,g9,BC,BF,C0,BR,BI,BK,BM,BY,BT,BU,w0,w1,w2,w3,w4,w5,w6,w7,w8,w9,BD,BB,BS,BP,BV,BQ,BH,BO,BL,BN,Mk,Nat.reduceAdd,Nat.reduceSub,Nat.reduceMul,Nat.reduceMod,Nat.reduceDiv,Q0,U,en1,e1,e9,e3',e4',e8,e7,jze,sz,el,Am,Av,AN,AP,AO,AQ] at hR
      rw [←hR]; rfl
  · have hneg:DK .i64 nn 0=true := Ls hp (by decide)
    simp (config := {maxSteps := 3000000}) (disch := omega) only [qa,g0,g1,g2,g3,g4,g5,g6,g7,g8,g9,BC,BF,C0,BR,BI,BK,BM,BY,BT,BU,w0,w1,w2,w3,w4,w5,w6,w7,w8,w9,BD,BB,BS,BP,BV,BQ,BH,BO,BL,BN,Mk,Nat.reduceAdd,Nat.reduceSub,Nat.reduceMul,Nat.reduceMod,Nat.reduceDiv,Q0,U,en1,e1,hneg,Am,Av,AN,AP,AO,AQ] at hR
    rw [←hR]; rfl
end Go.Ev.YtdgefeadbcbglaaDoor
