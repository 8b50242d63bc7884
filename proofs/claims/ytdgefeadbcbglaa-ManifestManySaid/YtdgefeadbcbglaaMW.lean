/- What the functions do, as equations over their texts, 2. -/
import Derived.Test.YtdgefeadbcbglaaMV
import Derived.KernelRfl
namespace Go.Ev.Ytdgefeadbcbglaa
open Go Go.Ev
set_option linter.unusedVariables false
set_option linter.unusedSimpArgs false
theorem cvi_u8_i64 {a:Nat} (h:a<256) (κ:V->R):Bw .u8 (.int .i64 a) κ=κ (.int .u8 a) := by
  rw [JE (k := .u8) (j := .i64) (show a<9223372036854775808 by omega), Nat.mod_eq_of_lt (by show a<256; exact h)]
set_option maxHeartbeats 1000000 in
theorem enB_in {m:Nat} {h0 h:Heap} {n0 n:K4} {av:List K4} {v b:V} {ps:List (Ten×V)} {bl:List UInt8} {i:Nat} {x3 x7 x8 x9 x10 x11 x12:V} (H0:TL h0 n0 av v ps) (hk:ps.length≤6) (G:∀ x∈ps, Good x.1) (ok:∀ x∈ps, okb x.1=true) (hil:i<ps.length)
    (h01:n0.toN≤n.toN) (e0:∀ q:K4, q.toN<n0.toN->A8 q h=A8 q h0) (O:EX (fun q => n0.toN≤q.toN) n h b bl) (hb:bl.length≤20000) (hn:n.toN<50000) :
    ∃ h' n' b' bl' x3' x7' x8' x9' x10' x11' x12', enB (Ak tab (m+1)) (.mk (.mk v (.nil .sl) b x3) (.mk v (.int .i64 ps.length) (.int .i64 i) x7) (.mk x8 x9 x10 x11) (.mk x12 Ar Ar Ar) Q0 Q0 Q0 Q0) h n = .ok .nrm (.mk (.mk v (.nil .sl) b' x3') (.mk v (.int .i64 ps.length) (.int .i64 (i+1)) x7') (.mk x8' x9' x10' x11') (.mk x12' Ar Ar Ar) Q0 Q0 Q0 Q0) h' n'∧EX (fun q => n0.toN≤q.toN) n' h' b' bl'∧bl'.length=bl.length+(37+8*ps[i].1.segs.length)∧n.toN≤n'.toN∧n'.toN≤n.toN+90+ps[i].1.segs.length*17∧(∀ q:K4, q.toN<n0.toN->A8 q h'=A8 q h)∧(Al h n->Al h' n') := by
  have u1 := K4.up_toN (p := n) (by omega)
  have Gi := G _ (List.getElem_mem hil)
  have Oi:1000≤ps[i].1.qu∧ps[i].1.qu≤65536 := of_decide_eq_true (ok _ (List.getElem_mem hil))
  have H:TL h n av v ps := H0.more h01 e0
  obtain ⟨p, o, e1, e2, _⟩ := H.ix hil (by omega)
  have L0 := H0.2 _ (List.getElem_mem hil)
  generalize hA:Ac n h (some (.c (.l [.int .u32 ps[i].1.id, .int .u64 ps[i].1.ep, .int .i64 ps[i].1.qu, .int .u64 ps[i].1.nx, .int .i64 ps[i].1.ns, ps[i].2]) false none))=A
  have a1:A8 n A=some (.c (.l [.int .u32 ps[i].1.id, .int .u64 ps[i].1.ep, .int .i64 ps[i].1.qu, .int .u64 ps[i].1.nx, .int .i64 ps[i].1.ns, ps[i].2]) false none) := by rw [←hA, A7]
  have a2:∀ q:K4, q.toN<n.toN->A8 q A=A8 q h := fun q hq => by rw [←hA, Aj hq]
  have a3:Al h n->Al A n.up := fun hf q hq => by rw [←hA, Aq (by omega)]; exact hf q (by omega)
  have ⟨y1, y2, y3, y4, y5⟩:ps[i].1.id<4294967296∧ps[i].1.ep≤1099511627776∧ps[i].1.nx≤1099511627776∧ps[i].1.ns≤1099511627776∧ps[i].1.segs.length≤60 := ⟨Gi.i, Gi.e2, Gi.n2, Gi.s2, Gi.l⟩
  have hsr := Gi.r
  generalize ps[i].1.segs=segs at *
  generalize ps[i].1.id=tid at *
  generalize ps[i].1.ep=tep at *
  generalize ps[i].1.qu=tqu at *
  generalize ps[i].1.nx=tnx at *
  generalize ps[i].1.ns=tns at *
  generalize ps[i].2=sv at *
  -- its name
  obtain ⟨c1, h1, n1, e3, o1, b1, b2, f1, r1⟩ := put_ok (m := m) (v := tid) (k := 4) (n := n.up) (h := A) (by omega) (by omega) (by omega) (by omega)
  have O1:EX (fun q => n0.toN≤q.toN∧q≠n) n1 h1 b bl := O.frame (by omega) (fun q hq hp => ⟨hp, K4.ne_of_lt hq⟩) fun q hq _ => (f1 q (by omega)).trans (a2 q hq)
  obtain ⟨c2, h2, n2, e4, o2, b3, b4, f2, r2⟩ := Hn O1 o1.src ⟨by omega, (K4.ne_of_lt (by omega)).symm⟩ (by rw [putL_len]; omega) (by omega)
  have p2:A8 n h2=some (.c (.l [.int .u32 tid, .int .u64 tep, .int .i64 tqu, .int .u64 tnx, .int .i64 tns, sv]) false none) := (f2 n (by omega) (fun hp => hp.2 rfl)).trans ((f1 n (by omega)).trans a1)
  have u2 := K4.up_toN (p := n2) (by omega)
  -- its numbers
  generalize hB:Ac n2 h2 (some (.c (.l [.int .u64 tep, .int .u64 tqu, .int .u64 tnx, .int .u64 tns]) false none))=B
  have q1:Wo (fun q => n0.toN≤q.toN∧q≠n∧q≠n2) B n2.up 1 (.sl n2 0 4 4 true 1) ([tep, tqu, tnx, tns].map (V.int .u64)) [tep, tqu, tnx, tns].length := .inr ⟨n2, 0, 4, true, _, false, none, rfl, by rw [←hB, A7], by simp, by simp, by omega, fun hp => hp.2.2 rfl⟩
  have q2:∀ q:K4, q.toN<n2.toN->A8 q B=A8 q h2 := fun q hq => by rw [←hB, Aj hq]
  have q3:Al h2 n2->Al B n2.up := fun hf q hq => by rw [←hB, Aq (by omega)]; exact hf q (by omega)
  have O2:EX (fun q => n0.toN≤q.toN∧q≠n∧q≠n2) n2.up B c2 (bl++putL tid 4) := o2.frame (by omega) (fun q hq hp => ⟨hp.1, hp.2, K4.ne_of_lt hq⟩) fun q hq _ => q2 q hq
  obtain ⟨h3, n3, c3, bl3, e5, o3, k3, b5, b6, f3, r3⟩ := enF_loop (m := m) (x0 := v) (x1 := .nil .sl) (x3 := .ptr n 0) (x4 := v) (x5 := .int .i64 ps.length) (x6 := .int .i64 i) (x7 := Ar) (x8 := Ar) (x9 := Ar) (x10 := x10) (x11 := x11) (x12 := x12) (us := [tep, tqu, tnx, tns]) (by simp; omega) (by simp) 4 0 B n2.up c2 (bl++putL tid 4) rfl O2 q1 (fun q hq => ⟨by omega, (K4.ne_of_lt (by omega)).symm, (K4.ne_of_lt (by omega)).symm⟩) (by rw [List.length_append, putL_len]; omega) (by omega)
  have eF := e5 999999995
  rw [show 999999995+4+1=999999999+1 from rfl, BN] at eF
  simp only [Q0,List.length_cons,List.length_nil,Nat.reduceAdd,Nat.zero_add] at eF
  have p3:A8 n h3=some (.c (.l [.int .u32 tid, .int .u64 tep, .int .i64 tqu, .int .u64 tnx, .int .i64 tns, sv]) false none) := (f3 n (by omega) (fun hp => hp.2.1 rfl)).trans ((q2 n (by omega)).trans p2)
  have u3 := K4.up_toN (p := n3) (by omega)
  have fz:∀ q:K4, q.toN<n0.toN->A8 q h3=A8 q h := fun q hq => (f3 q (by omega) (fun hp => by have := hp.1; omega)).trans ((q2 q (by omega)).trans ((f2 q (by omega) (fun hp => by have := hp.1; omega)).trans ((f1 q (by omega)).trans (a2 q (by omega)))))
  have L3:LS h3 n3 av 1 sv (segs.map (V.int .i64)) segs.length := L0.more (by omega) fun q hq => (fz q hq).trans (e0 q hq)
  have hln := L3.len (by omega)
  -- how many segments
  generalize hC:Ac n3 h3 (some (.c (cb [UInt8.ofNat segs.length]) false none))=Ch
  have s2:∀ q:K4, q.toN<n3.toN->A8 q Ch=A8 q h3 := fun q hq => by rw [←hC, Aj hq]
  have s3:Al h3 n3->Al Ch n3.up := fun hf q hq => by rw [←hC, Aq (by omega)]; exact hf q (by omega)
  have O3:EX (fun q => n0.toN≤q.toN∧q≠n) n3.up Ch c3 bl3 := o3.frame (by omega) (fun q hq hp => ⟨hp.1, hp.2.1⟩) fun q hq _ => s2 q hq
  simp only [List.length_append,putL_len,List.length_cons,List.length_nil] at k3
  obtain ⟨c4, h4, n4, e6, o4, b7, b8, f4, r4⟩ := Hn (v := .sl n3 0 1 1 true 1) (b := [UInt8.ofNat segs.length]) O3 (.inr (.inr ⟨n3, 0, 1, true, _, false, none, rfl, by rw [←hC, A7], by simp, by simp⟩)) ⟨by omega, (K4.ne_of_lt (by omega)).symm⟩ (by simp; omega) (by omega)
  have p4:A8 n h4=some (.c (.l [.int .u32 tid, .int .u64 tep, .int .i64 tqu, .int .u64 tnx, .int .i64 tns, sv]) false none) := (f4 n (by omega) (fun hp => hp.2 rfl)).trans ((s2 n (by omega)).trans p3)
  have fy:∀ q:K4, q.toN<n0.toN->A8 q h4=A8 q h := fun q hq => (f4 q (by omega) (fun hp => by have := hp.1; omega)).trans ((s2 q (by omega)).trans (fz q hq))
  have L4:Wo (fun q => n0.toN≤q.toN∧q≠n) h4 n4 1 sv (segs.map (V.int .i64)) segs.length := (L0.lsq (P := fun q => n0.toN≤q.toN∧q≠n) fun q hq hp => by have := hp.1; omega).frame (by omega) fun q hq hp => ⟨(fy q hq).trans (e0 q hq), hp⟩
  have hln4 := L4.ls.len (by omega)
  obtain ⟨h5, n5, c5, bl5, e7, o5, k5, b9, b10, f5, r5⟩ := enS_loop (m := m) (x0 := v) (x1 := .nil .sl) (x3 := .ptr n 0) (x4 := v) (x5 := .int .i64 ps.length) (x6 := .int .i64 i) (x7 := .sl n2 0 4 4 true 1) (x8 := .int .i64 4) (x9 := .int .i64 4) (x10 := Ar) (x11 := Ar) (x12 := Ar) (us := segs) (fun u hu => by have := (hsr u hu).2; omega) (by omega) segs.length 0 h4 n4 c4 (bl3++[UInt8.ofNat segs.length]) (by omega) o4 L4 (fun q hq => ⟨by omega, (K4.ne_of_lt (by omega)).symm⟩) (by simp; omega) (by omega)
  have eS := e7 (999999999 - segs.length)
  rw [show 999999999 - segs.length+segs.length+1=999999999+1 by omega, BN] at eS
  simp only [Q0] at eS
  refine ⟨h5, n5, c5, bl5, .ptr n 0, .sl n2 0 4 4 true 1, .int .i64 4, .int .i64 4, sv, .int .i64 segs.length, .int .i64 segs.length, ?_, o5.frame (Nat.le_refl _) (fun q _ hp => hp.1) (fun q _ _ => rfl), by rw [k5]; simp; omega, by omega, by omega, fun q hq => (f5 q (by omega) (fun hp => by have := hp.1; omega)).trans (fy q hq), fun hf => r5 (r4 (s3 (r3 (q3 (r2 (r1 (a3 hf)))))))⟩
  unfold enB enR
  rw [show iL 0 = .int .u64 0 from rfl, show iB 0 = .int .u8 0 from rfl]
  simp (config := {maxSteps := 3000000}) (disch := omega) only [qa,g0,g1,g2,g3,g4,g5,g6,g7,g8,g9,Bb,B9,B7,Bd,Bq,Bi,Bt,Bk,Bl,Bp,w0,w1,w2,w3,w4,w5,w6,w7,w8,w9,Bc,Ba,B5,Bo,Be,Bm,Br,Bs,Bj,Bf,Mk,Nat.reduceAdd,Nat.reduceSub,Nat.reduceMul,Nat.reduceMod,Nat.reduceDiv,Q0,U,e1,e2,H5,hA,a1,cvi_32,cvi_64,e3,e4,p2,hB,Cg,eF,p3,hln,cvi_u8_i64,Ua,hC,e6,p4,hln4,eS]
theorem en_loop {m s:Nat} {h0:Heap} {n0:K4} {av:List K4} {v:V} {ps:List (Ten×V)} (H0:TL h0 n0 av v ps) (hk:ps.length≤6) (G:∀ x∈ps, Good x.1) (ok:∀ x∈ps, okb x.1=true) (hs:∀ x∈ps, x.1.segs.length≤s) :
    ∀ (j i:Nat) (h:Heap) (n:K4) (b:V) (bl:List UInt8) (x3 x7 x8 x9 x10 x11 x12:V), i+j=ps.length->n0.toN≤n.toN->(∀ q:K4, q.toN<n0.toN->A8 q h=A8 q h0)->EX (fun q => n0.toN≤q.toN) n h b bl->bl.length+j*(37+8*s)≤20000->n.toN+j*(90+s*17)<49000 →
    ∃ h' n' b' bl' x3' x7' x8' x9' x10' x11' x12', (∀ K, Cr (enB (Ak tab (m+1))) (K+j+1) (.mk (.mk v (.nil .sl) b x3) (.mk v (.int .i64 ps.length) (.int .i64 i) x7) (.mk x8 x9 x10 x11) (.mk x12 Ar Ar Ar) Q0 Q0 Q0 Q0) h n = .ok (.exit 0) (.mk (.mk v (.nil .sl) b' x3') (.mk v (.int .i64 ps.length) (.int .i64 ps.length) x7') (.mk x8' x9' x10' x11') (.mk x12' Ar Ar Ar) Q0 Q0 Q0 Q0) h' n')∧EX (fun q => n0.toN≤q.toN) n' h' b' bl'∧bl.length≤bl'.length∧bl'.length≤bl.length+j*(37+8*s)∧n.toN≤n'.toN∧n'.toN≤n.toN+j*(90+s*17)∧(∀ q:K4, q.toN<n0.toN->A8 q h'=A8 q h0)∧(Al h n->Al h' n') := by
  intro j
  induction j with
  | zero =>
    intro i h n b bl x3 x7 x8 x9 x10 x11 x12 hi hn0 e0 O hb hn
    obtain rfl:i=ps.length := by omega
    refine ⟨h, n, b, bl, x3, x7, x8, x9, x10, x11, x12, fun K => ?_, O, Nat.le_refl _, by omega, by omega, by omega, e0, fun h => h⟩
    rw [BN]
    unfold enB
    simp (disch := omega) only [qa,g0,g1,g2,g3,g4,g5,g6,g7,g8,g9,Bb,B9,B7,Bd,Bq,Bi,Bt,Bk,Bl,Bp,w0,w1,w2,w3,w4,w5,w6,w7,w8,w9,Bc,Ba,B5,Bo,Be,Bm,Br,Bs,Bj,Bf,Mk,Nat.reduceAdd,Nat.reduceSub,Nat.reduceMul,Nat.reduceMod,Nat.reduceDiv,Q0,U]
  | succ j ih =>
    intro i h n b bl x3 x7 x8 x9 x10 x11 x12 hi hn0 e0 O hb hn
    have hil:i<ps.length := by omega
    rw [Nat.succ_mul] at hb hn
    obtain ⟨h1, n1, b1, bl1, y3, y7, y8, y9, y10, y11, y12, e1, o1, k1, c1, c2, f1, r1⟩ := enB_in (m := m) (x3 := x3) (x7 := x7) (x8 := x8) (x9 := x9) (x10 := x10) (x11 := x11) (x12 := x12) H0 hk G ok hil hn0 e0 O (by omega) (by omega)
    have hsl := hs _ (List.getElem_mem hil)
    obtain ⟨h2, n2, b2, bl2, z3, z7, z8, z9, z10, z11, z12, e2, o2, k2, k3, c3, c4, f2, r2⟩ := ih (i+1) h1 n1 b1 bl1 y3 y7 y8 y9 y10 y11 y12 (by omega) (by omega) (fun q hq => (f1 q hq).trans (e0 q hq)) o1 (by omega) (by omega)
    refine ⟨h2, n2, b2, bl2, z3, z7, z8, z9, z10, z11, z12, fun K => ?_, o2, by omega, by rw [Nat.succ_mul]; omega, by omega, by rw [Nat.succ_mul]; omega, f2, fun hf => r2 (r1 hf)⟩
    rw [BN, show K+(j+1)=K+j+1 by omega, e1, N1]
    exact e2 K
theorem enc_bad {m:Nat} {h:Heap} {n:K4} {av:List K4} {v:V} {ps:List (Ten×V)} (H:TL h n av v ps) (hk:ps.length≤6) (G:∀ x∈ps, Good x.1) (O:(ps.map fun x => x.1.id).Pairwise (· < ·)) (bad:(ps.all fun x => okb x.1)=false) (hn:n.toN<48000) :
    ∃ h' n', Ak tab (m+7) ⟨.d0, .d4, .d4⟩ [v] h n = .rv (.nil .sl) h' n'∧n.toN≤n'.toN∧n'.toN≤n.toN+66∧(∀ q:K4, q.toN<n.toN->A8 q h'=A8 q h)∧(Al h n->Al h' n') := by
  obtain ⟨h1, n1, e1, b1, b2, f1, r1⟩ := may_all (m := m) H hk G O (by omega)
  rw [bad] at e1
  refine ⟨h1, n1, ?_, b1, b2, f1, r1⟩
  rw [call2_at, show B0 ⟨.d0, .d4, .d4⟩ tab=some x68 from rfl, x68_L, x68L]
  simp (disch := omega) only [qa,g0,g1,g2,g3,g4,g5,g6,g7,g8,g9,Bb,B9,B7,Bd,Bq,Bi,Bt,Bk,Bl,Bp,w0,w1,w2,w3,w4,w5,w6,w7,w8,w9,Bc,Ba,B5,Bo,Be,Bm,Br,Bs,Bj,Bf,Mk,Nat.reduceAdd,Nat.reduceSub,Nat.reduceMul,Nat.reduceMod,Nat.reduceDiv,Q0,U,en3,e1]
theorem enc_ok {m s:Nat} {h:Heap} {n:K4} {av:List K4} {v:V} {ps:List (Ten×V)} (H:TL h n av v ps) (hk:ps.length≤6) (G:∀ x∈ps, Good x.1) (O:(ps.map fun x => x.1.id).Pairwise (· < ·)) (ok:(ps.all fun x => okb x.1)=true) (hs:∀ x∈ps, x.1.segs.length≤s) (hs2:s≤60) (hn:n.toN<40000) :
    ∃ h' n' p ex l pr, Ak tab (m+7) ⟨.d0, .d4, .d4⟩ [v] h n = .rv (.sl p 0 l.length l.length ex 1) h' n'∧A8 p h'=some (.c (cb l) false pr)∧n.toN≤p.toN∧p.toN<n'.toN∧l.length≤1+6*(37+8*s)∧n.toN≤n'.toN∧n'.toN≤n.toN+67+ps.length*(90+s*17)∧(∀ q:K4, q.toN<n.toN->A8 q h'=A8 q h)∧(Al h n->Al h' n') := by
  obtain ⟨h1, n1, e1, b1, b2, f1, r1⟩ := may_all (m := m) H hk G O (by omega)
  rw [ok] at e1
  have u1 := K4.up_toN (p := n1) (by omega)
  have H1 := H.more b1 f1
  have hln := H1.1.len (by omega)
  generalize hA:Ac n1 h1 (some (.c (cb [UInt8.ofNat ps.length]) false none))=A
  have a1:A8 n1 A=some (.c (cb [UInt8.ofNat ps.length]) false none) := by rw [←hA, A7]
  have a2:∀ q:K4, q.toN<n1.toN->A8 q A=A8 q h1 := fun q hq => by rw [←hA, Aj hq]
  have a3:Al h1 n1->Al A n1.up := fun hf q hq => by rw [←hA, Aq (by omega)]; exact hf q (by omega)
  have OA:EX (fun q => n1.toN≤q.toN) n1.up A (.sl n1 0 1 1 true 1) [UInt8.ofNat ps.length] := .inr ⟨n1, true, none, rfl, a1, Nat.le_refl _, by omega, .inl rfl⟩
  have m1:ps.length*(37+8*s)≤6*(37+8*s) := Nat.mul_le_mul_right _ hk
  have m2:ps.length*(90+s*17)≤6*(90+s*17) := Nat.mul_le_mul_right _ hk
  obtain ⟨h2, n2, b', bl, x3, x7, x8, x9, x10, x11, x12, e2, o2, k1, k2, b3, b4, f2, r2⟩ := en_loop (m := m+5) (s := s) H1 hk G (List.all_eq_true.1 ok) hs ps.length 0 A n1.up (.sl n1 0 1 1 true 1) [UInt8.ofNat ps.length] Ar Ar Ar Ar Ar Ar Ar (by omega) (by omega) a2 OA (by simp; omega) (by omega)
  have eK := e2 (999999999 - ps.length)
  rw [show 999999999 - ps.length+ps.length+1=999999999+1 by omega, BN] at eK
  simp only [Q0] at eK
  simp only [List.length_cons,List.length_nil] at k1 k2
  rcases o2 with ⟨_, rfl⟩ | ⟨p, ex, pr, rfl, g1', g2', g3', _⟩
  · simp at k1
  · refine ⟨h2, n2, p, ex, bl, pr, ?_, g1', by omega, g3', by omega, by omega, by omega, fun q hq => (f2 q (by omega)).trans (f1 q hq), fun hf => r2 (a3 (r1 hf))⟩
    rw [call2_at, show B0 ⟨.d0, .d4, .d4⟩ tab=some x68 from rfl, x68_L, x68L]
    rw [show iB 0 = .int .u8 0 from rfl]
    simp (config := {maxSteps := 3000000}) (disch := omega) only [qa,g0,g1,g2,g3,g4,g5,g6,g7,g8,g9,Bb,B9,B7,Bd,Bq,Bi,Bt,Bk,Bl,Bp,w0,w1,w2,w3,w4,w5,w6,w7,w8,w9,Bc,Ba,B5,Bo,Be,Bm,Br,Bs,Bj,Bf,Mk,Nat.reduceAdd,Nat.reduceSub,Nat.reduceMul,Nat.reduceMod,Nat.reduceDiv,Q0,U,en3,e1,hln,cvi_u8_i64,Ua,hA,Cg,eK]
theorem enc_nil {m:Nat} {h:Heap} {n:K4} (hn:n.toN<40000):∃ h' n' p ex l pr, Ak tab (m+7) ⟨.d0, .d4, .d4⟩ [.nil .sl] h n = .rv (.sl p 0 l.length l.length ex 1) h' n'∧A8 p h'=some (.c (cb l) false pr)∧n.toN≤p.toN∧p.toN<n'.toN∧l.length≤1+6*(37+8*0)∧n.toN≤n'.toN∧n'.toN≤n.toN+67+0∧(∀ q:K4, q.toN<n.toN->A8 q h'=A8 q h)∧(Al h n->Al h' n') := by
  have := enc_ok (m := m) (s := 0) (h := h) (n := n) (av := []) (v := .nil .sl) (ps := []) ⟨.inl ⟨rfl, rfl, rfl⟩, fun x hx => by cases hx⟩ (by simp) (fun x hx => by cases hx) (by simp) rfl (fun x hx => by cases hx) (by omega) hn
  simpa using this
abbrev tc (x:Ten×V):List V := [.int .u32 x.1.id, .int .u64 x.1.ep, .int .i64 x.1.qu, .int .u64 x.1.nx, .int .i64 x.1.ns, x.2]
theorem del_cl {m:Nat} {h:Heap} {n pt:K4} {x t:Ten×V} (ht:A8 pt h=some (.c (.l (tc t)) false none)) (hpt:pt.toN<n.toN) (hn:n.toN<65000) :
    Ak tab (m+1) (B2 70) [.agg (tc x), .ptr pt 0] h n = .rv (.bool (decide (x.1.id=t.1.id))) (Ac n h (some (.c (.l (tc x)) false none))) n.up := by
  rw [call2_at, show B0 (B2 70) tab=some x70 from rfl, x70]
  simp (disch := omega) only [qa,g0,g1,g2,g3,g4,g5,g6,g7,g8,g9,Bb,B9,B7,Bd,Bq,Bi,Bt,Bk,Bl,Bp,w0,w1,w2,w3,w4,w5,w6,w7,w8,w9,Bc,Ba,B5,Bo,Be,Bm,Br,Bs,Bj,Bf,Mk,Nat.reduceAdd,Nat.reduceSub,Nat.reduceMul,Nat.reduceMod,Nat.reduceDiv,Q0,U,en1,ht]
noncomputable def itB (c:Ei):S->Heap->K4->R := fun t h n=>g4 t fun z3=>g3 t fun z4=>AO z3 z4 fun z5=>AZ z5 (Ah 1 (g1 t fun z6=>g0 t fun z7=>AG 6 z7 z3 fun z8=>C0 6 z8 h fun z9=>Kd c z6 [z9] h n fun za h n=>AZ za (w2 t z3 fun t=>rT t h n)<|nR t h n) fun t h n=>g4 t fun zb=>AM zb (iI 1) fun zc=>w4 t zc fun t=>nR t h n)<|.ok (.exit 0) t h n
noncomputable def x91L:Ent := .code en1 (fun c t h n=>g0 t fun z1=>AJ z1 fun z2=>Ah 0 (w2 t (iI 0) fun t=>w3 t z2 fun t=>w4 t (iI 0) fun t=>B8 (itB c) t h n) fun t h n=>w2 t (iI 18446744073709551615) fun t=>rT t h n) (fun t h n=>g2 t fun a0=>.rv a0 h n)
theorem x91_L:x91=x91L := rfl
theorem it_loop {m:Nat} {n0 pt:K4} {av:List K4} {v:V} {t:Ten×V} {ps:List (Ten×V)} (hk:ps.length≤100) :
    ∀ (j i:Nat) (h:Heap) (n:K4), i+j=ps.length->TL h n av v ps->A8 pt h=some (.c (.l (tc t)) false none)->pt.toN<n.toN->n.toN+j<60000 →
    ∃ h' n', n.toN≤n'.toN∧n'.toN≤n.toN+j∧(∀ q:K4, q.toN<n.toN->A8 q h'=A8 q h)∧(Al h n->Al h' n') ∧
      (((∀ x∈ps.drop i, x.1.id≠t.1.id) ∧ ∀ K, Cr (itB (Ak tab (m+1))) (K+j+1) (.mk (.mk v (.fn 70 [.ptr pt 0]) (.int .i64 0) (.int .i64 ps.length)) (.mk (.int .i64 i) Ar Ar Ar) Q0 Q0 Q0 Q0 Q0 Q0) h n = .ok (.exit 0) (.mk (.mk v (.fn 70 [.ptr pt 0]) (.int .i64 0) (.int .i64 ps.length)) (.mk (.int .i64 ps.length) Ar Ar Ar) Q0 Q0 Q0 Q0 Q0 Q0) h' n') ∨
        (∃ r, ∃ hr:r<ps.length, ps[r].1.id=t.1.id ∧ ∀ K, Cr (itB (Ak tab (m+1))) (K+j+1) (.mk (.mk v (.fn 70 [.ptr pt 0]) (.int .i64 0) (.int .i64 ps.length)) (.mk (.int .i64 i) Ar Ar Ar) Q0 Q0 Q0 Q0 Q0 Q0) h n = .ok .ret (.mk (.mk v (.fn 70 [.ptr pt 0]) (.int .i64 r) (.int .i64 ps.length)) (.mk (.int .i64 r) Ar Ar Ar) Q0 Q0 Q0 Q0 Q0 Q0) h' n')) := by
  intro j
  induction j with
  | zero =>
    intro i h n hi H ht hpt hn
    obtain rfl:i=ps.length := by omega
    refine ⟨h, n, by omega, by omega, fun q _ => rfl, fun h => h, .inl ⟨(fun x hx => by rw [List.drop_length] at hx; cases hx), fun K => ?_⟩⟩
    rw [BN]
    unfold itB
    simp (disch := omega) only [qa,g0,g1,g2,g3,g4,g5,g6,g7,g8,g9,Bb,B9,B7,Bd,Bq,Bi,Bt,Bk,Bl,Bp,w0,w1,w2,w3,w4,w5,w6,w7,w8,w9,Bc,Ba,B5,Bo,Be,Bm,Br,Bs,Bj,Bf,Mk,Nat.reduceAdd,Nat.reduceSub,Nat.reduceMul,Nat.reduceMod,Nat.reduceDiv,Q0,U]
  | succ j ih =>
    intro i h n hi H ht hpt hn
    have hil:i<ps.length := by omega
    have u1 := K4.up_toN (p := n) (by omega)
    have hd:ps.drop i=ps[i]::ps.drop (i+1) := List.drop_eq_getElem_cons hil
    obtain ⟨p, o, e1, e2, _⟩ := H.ix hil (by omega)
    have ec := del_cl (m := m) (x := ps[i]) ht hpt (by omega)
    have f1:∀ q:K4, q.toN<n.toN->A8 q (Ac n h (some (.c (.l (tc ps[i])) false none)))=A8 q h := fun q hq => Aj hq _ _
    have r1:Al h n->Al (Ac n h (some (.c (.l (tc ps[i])) false none))) n.up := fun hf q hq => (Aq (by omega) _ _).trans (hf q (by omega))
    by_cases hc:ps[i].1.id=t.1.id
    · rw [decide_eq_true hc] at ec
      refine ⟨_, n.up, by omega, by omega, f1, r1, .inr ⟨i, hil, hc, fun K => ?_⟩⟩
      rw [BN]
      unfold itB
      simp (disch := omega) only [qa,g0,g1,g2,g3,g4,g5,g6,g7,g8,g9,Bb,B9,B7,Bd,Bq,Bi,Bt,Bk,Bl,Bp,w0,w1,w2,w3,w4,w5,w6,w7,w8,w9,Bc,Ba,B5,Bo,Be,Bm,Br,Bs,Bj,Bf,Mk,Nat.reduceAdd,Nat.reduceSub,Nat.reduceMul,Nat.reduceMod,Nat.reduceDiv,Q0,U,e1,e2,Qf,ec]
    · rw [decide_eq_false hc] at ec
      obtain ⟨h2, n2, b1, b2, f2, r2, fin⟩ := ih (i+1) _ n.up (by omega) (H.more (by omega) f1) ((f1 pt hpt).trans ht) (by omega) (by omega)
      refine ⟨h2, n2, by omega, by omega, fun q hq => (f2 q (by omega)).trans (f1 q hq), fun hf => r2 (r1 hf), ?_⟩
      have step:∀ K, Cr (itB (Ak tab (m+1))) (K+(j+1)+1) (.mk (.mk v (.fn 70 [.ptr pt 0]) (.int .i64 0) (.int .i64 ps.length)) (.mk (.int .i64 i) Ar Ar Ar) Q0 Q0 Q0 Q0 Q0 Q0) h n=Cr (itB (Ak tab (m+1))) (K+j+1) (.mk (.mk v (.fn 70 [.ptr pt 0]) (.int .i64 0) (.int .i64 ps.length)) (.mk (.int .i64 (i+1)) Ar Ar Ar) Q0 Q0 Q0 Q0 Q0 Q0) (Ac n h (some (.c (.l (tc ps[i])) false none))) n.up := fun K => by
        rw [BN, show K+(j+1)=K+j+1 by omega]
        generalize Cr (itB (Ak tab (m+1))) (K+j+1)=G'
        unfold itB
        simp (disch := omega) only [qa,g0,g1,g2,g3,g4,g5,g6,g7,g8,g9,Bb,B9,B7,Bd,Bq,Bi,Bt,Bk,Bl,Bp,w0,w1,w2,w3,w4,w5,w6,w7,w8,w9,Bc,Ba,B5,Bo,Be,Bm,Br,Bs,Bj,Bf,Mk,Nat.reduceAdd,Nat.reduceSub,Nat.reduceMul,Nat.reduceMod,Nat.reduceDiv,Q0,U,e1,e2,Qf,ec]
      rcases fin with ⟨k1, k2⟩ | ⟨r, hr, k1, k2⟩
      · refine .inl ⟨fun x hx => ?_, fun K => (step K).trans (k2 K)⟩
        rw [hd] at hx
        rcases List.mem_cons.1 hx with rfl | hx
        · exact hc
        · exact k1 x hx
      · exact .inr ⟨r, hr, k1, fun K => (step K).trans (k2 K)⟩
theorem ixT_ok {m:Nat} {h:Heap} {n pt:K4} {av:List K4} {v:V} {t:Ten×V} {ps:List (Ten×V)} (hk:ps.length≤100) (H:TL h n av v ps) (ht:A8 pt h=some (.c (.l (tc t)) false none)) (hpt:pt.toN<n.toN) (hn:n.toN<59000) :
    ∃ h' n', n.toN≤n'.toN∧n'.toN≤n.toN+ps.length∧(∀ q:K4, q.toN<n.toN->A8 q h'=A8 q h)∧(Al h n->Al h' n') ∧
      (((∀ x∈ps, x.1.id≠t.1.id)∧Ak tab (m+2) ⟨.d0, .d5, .d11⟩ [v, .fn 70 [.ptr pt 0]] h n = .rv (.int .i64 18446744073709551615) h' n') ∨
        (∃ r, ∃ hr:r<ps.length, ps[r].1.id=t.1.id∧Ak tab (m+2) ⟨.d0, .d5, .d11⟩ [v, .fn 70 [.ptr pt 0]] h n = .rv (.int .i64 r) h' n')) := by
  obtain ⟨h1, n1, b1, b2, f1, r1, fin⟩ := it_loop (m := m) (n0 := n) (v := v) (t := t) hk ps.length 0 h n (by omega) H ht hpt (by omega)
  have hln := H.1.len (by omega)
  refine ⟨h1, n1, b1, b2, f1, r1, ?_⟩
  rcases fin with ⟨k1, k2⟩ | ⟨r, hr, k1, k2⟩
  · refine .inl ⟨by rw [List.drop_zero] at k1; exact k1, ?_⟩
    have eK := k2 (999999999 - ps.length)
    rw [show 999999999 - ps.length+ps.length+1=999999999+1 by omega, BN] at eK
    simp only [Q0] at eK
    rw [call2_at, show B0 ⟨.d0, .d5, .d11⟩ tab=some x91 from rfl, x91_L, x91L]
    simp (disch := omega) only [qa,g0,g1,g2,g3,g4,g5,g6,g7,g8,g9,Bb,B9,B7,Bd,Bq,Bi,Bt,Bk,Bl,Bp,w0,w1,w2,w3,w4,w5,w6,w7,w8,w9,Bc,Ba,B5,Bo,Be,Bm,Br,Bs,Bj,Bf,Mk,Nat.reduceAdd,Nat.reduceSub,Nat.reduceMul,Nat.reduceMod,Nat.reduceDiv,Q0,U,en1,hln,Cg,eK]
  · refine .inr ⟨r, hr, k1, ?_⟩
    have eK := k2 (999999999 - ps.length)
    rw [show 999999999 - ps.length+ps.length+1=999999999+1 by omega, BN] at eK
    simp only [Q0] at eK
    rw [call2_at, show B0 ⟨.d0, .d5, .d11⟩ tab=some x91 from rfl, x91_L, x91L]
    simp (disch := omega) only [qa,g0,g1,g2,g3,g4,g5,g6,g7,g8,g9,Bb,B9,B7,Bd,Bq,Bi,Bt,Bk,Bl,Bp,w0,w1,w2,w3,w4,w5,w6,w7,w8,w9,Bc,Ba,B5,Bo,Be,Bm,Br,Bs,Bj,Bf,Mk,Nat.reduceAdd,Nat.reduceSub,Nat.reduceMul,Nat.reduceMod,Nat.reduceDiv,Q0,U,en1,hln,Cg,eK]
noncomputable def dfB (c:Ei):S->Heap->K4->R := fun t h n=>g4 t fun z6=>g0 t fun z7=>AJ z7 fun z8=>AO z6 z8 fun z9=>AZ z9 (Ah 1 (AG 6 z7 z6 fun za=>C0 6 za h fun zb=>DE (.l [(iW 0),(iL 0),(iI 0),(iL 0),(iI 0),(.nil .sl)]) h n fun zc h n=>Di 6 zc zb h fun h=>g1 t fun zd=>C0 6 zc h fun ze=>Kd c zd [ze] h n fun zf h n=>Cd zf fun zg=>Ct (AZ zg (g3 t fun zh=>C0 6 zc h fun zi=>AG 6 z7 zh fun zj=>Di 6 zj zi h fun h=>AM zh (iI 1) fun zk=>w3 t zk fun t=>nR t h n) (nR t h n)) fun t h n=>nR t h n) fun t h n=>g4 t fun zl=>AM zl (iI 1) fun zm=>w4 t zm fun t=>nR t h n)<|.ok (.exit 0) t h n
noncomputable def x69L:Ent := .code en1 (fun c t h n=>g0 t fun z1=>g1 t fun z2=>Ag (c ⟨.d0,.d5,.d11⟩ [z1,z2] h n) fun z3 h n=>CR z3 (iI 18446744073709551615) fun z4=>AZ z4 (w2 t z1 fun t=>w3 t z3 fun t=>rT t h n)<|AM z3 (iI 1) fun z5=>Ah 0 (w2 t (.nil .sl) fun t=>w3 t z3 fun t=>w4 t z5 fun t=>B8 (dfB c) t h n) fun t h n=>g0 t fun zn=>g3 t fun zo=>DW 6 zn (some zo) none fun zp=>P6 false [(iW 0),(iL 0),(iI 0),(iL 0),(iI 0),(.nil .sl)] zp h fun h=>DW 6 zn none (some zo) fun zq=>w2 t zq fun t=>rT t h n) (fun t h n=>g2 t fun a0=>.rv a0 h n)
theorem x69_L:x69=x69L := rfl
theorem df_loop {m k:Nat} {p pt:K4} {ex:Bool} {t:Ten×V} (hk:k≤100) (npt:pt≠p) :
    ∀ (rest dn:List (Ten×V)) (y:Ten×V) (h:Heap) (n:K4), dn.length+1+rest.length=k->A8 p h=some (.c (.l (flatP (dn++y::rest))) false none)->A8 pt h=some (.c (.l (tc t)) false none)->(∀ x∈rest, x.1.id≠t.1.id)->p.toN<n.toN->pt.toN<n.toN->n.toN+rest.length*2<60000 →
    ∃ h' n' y', n.toN≤n'.toN∧n'.toN≤n.toN+rest.length*2∧(∀ q:K4, q.toN<n.toN->q≠p->A8 q h'=A8 q h)∧(Al h n->Al h' n')∧A8 p h'=some (.c (.l (flatP ((dn++rest)++[y']))) false none) ∧
      ∀ K, Cr (dfB (Ak tab (m+1))) (K+rest.length+1) (.mk (.mk (.sl p 0 k k ex 6) (.fn 70 [.ptr pt 0]) (.nil .sl) (.int .i64 dn.length)) (.mk (.int .i64 (dn.length+1)) Ar Ar Ar) Q0 Q0 Q0 Q0 Q0 Q0) h n = .ok (.exit 0) (.mk (.mk (.sl p 0 k k ex 6) (.fn 70 [.ptr pt 0]) (.nil .sl) (.int .i64 (k - 1))) (.mk (.int .i64 k) Ar Ar Ar) Q0 Q0 Q0 Q0 Q0 Q0) h' n' := by
  intro rest
  induction rest with
  | nil =>
    intro dn y h n hl hp ht hne hpn hptn hn
    refine ⟨h, n, y, by omega, by omega, fun q _ _ => rfl, fun h => h, by rw [hp, List.append_nil], fun K => ?_⟩
    simp only [List.length_nil] at hl
    rw [BN, show dn.length=k - 1 by omega]
    unfold dfB
    simp (disch := omega) only [qa,g0,g1,g2,g3,g4,g5,g6,g7,g8,g9,Bb,B9,B7,Bd,Bq,Bi,Bt,Bk,Bl,Bp,w0,w1,w2,w3,w4,w5,w6,w7,w8,w9,Bc,Ba,B5,Bo,Be,Bm,Br,Bs,Bj,Bf,Mk,Nat.reduceAdd,Nat.reduceSub,Nat.reduceMul,Nat.reduceMod,Nat.reduceDiv,Q0,U,show k - 1+1=k by omega]
  | cons x rest ih =>
    intro dn y h n hl hp ht hne hpn hptn hn
    have u1 := K4.up_toN (p := n) (by omega)
    have u2 := K4.up_toN (p := n.up) (by omega)
    simp only [List.length_cons] at hl hn
    have hx := hne x List.mem_cons_self
    have npn:p≠n := K4.ne_of_lt hpn
    have npn2:p≠n.up := K4.ne_of_lt (by omega)
    generalize hA:Ac n h (some (.c (.l (tc x)) false none))=A
    have a1:A8 n A=some (.c (.l (tc x)) false none) := by rw [←hA, A7]
    have a2:∀ q:K4, q.toN<n.toN->A8 q A=A8 q h := fun q hq => by rw [←hA, Aj hq]
    have ec := del_cl (m := m) (x := x) (n := n.up) ((a2 pt hptn).trans ht) (by omega) (by omega)
    rw [decide_eq_false hx] at ec
    generalize hB:Ac n.up A (some (.c (.l (tc x)) false none))=B at ec
    have b1:A8 n B=some (.c (.l (tc x)) false none) := by rw [←hB, Aj (by omega), a1]
    have b2:∀ q:K4, q.toN<n.toN->A8 q B=A8 q h := fun q hq => by rw [←hB, Aj (by omega), a2 q hq]
    have b3:Al h n->Al B n.up.up := fun hf q hq => by rw [←hB, Aq (by omega), ←hA, Aq (by omega)]; exact hf q (by omega)
    have hpB := (b2 p hpn).trans hp
    have hr:dn++y::x::rest=(dn++[y])++x::rest := by simp
    have hsix:∀ κ:V->R, KC (A8 p h) 6 ((dn.length+1)*6) κ=κ (.agg (tc x)) := fun κ => by
      rw [hp, Oh (by rw [flatP_len]; simp; omega), hr, flat_six (by simp)]; rfl
    have hst:∀ κ:Heap->R, Di 6 (.ptr p (dn.length*6)) (.agg (tc x)) B κ=κ (Ac p B (some (.c (.l (flatP ((dn++[x])++x::rest))) false none))) := fun κ => by
      have := SN (m := 6) (b := tc x) (off := dn.length*6) hpB rfl (by rw [flatP_len]; simp; omega) κ
      rw [this]
      show κ (Ac p B (some (.c (.l ((flatP (dn++y::x::rest)).take (dn.length*6)++(x.1.c x.2++(flatP (dn++y::x::rest)).drop (dn.length*6+6)))) false none)))=_
      rw [flat_put rfl]; simp
    obtain ⟨h3, n3, y3, c1, c2, f3, r3, p3, e3⟩ := ih (dn++[x]) x (Ac p B (some (.c (.l (flatP ((dn++[x])++x::rest))) false none))) n.up.up (by simp; omega) (A7 _ _ _) ((A6 _ _ npt.symm).trans ((b2 pt hptn).trans ht)) (fun z hz => hne z (List.mem_cons_of_mem _ hz)) (by omega) (by omega) (by omega)
    refine ⟨h3, n3, y3, by omega, by simp only [List.length_cons]; omega, fun q hq hqp => (f3 q (by omega) hqp).trans ((A6 _ _ (Ne.symm hqp)).trans (b2 q hq)), fun hf => r3 fun q hq => (Aq (by omega) _ _).trans (b3 hf q hq), by rw [p3]; simp, fun K => ?_⟩
    have e4 := e3 K
    rw [show (dn++[x]).length=dn.length+1 by simp] at e4
    rw [BN, List.length_cons, show K+(rest.length+1)=K+rest.length+1 by omega, ←e4]
    generalize Cr (dfB (Ak tab (m+1))) (K+rest.length+1)=G'
    have hlen:(dn.length+1+1)=dn.length+2 := rfl
    unfold dfB
    simp (config := {maxSteps := 3000000}) (disch := omega) only [qa,g0,g1,g2,g3,g4,g5,g6,g7,g8,g9,Bb,B9,B7,Bd,Bq,Bi,Bt,Bk,Bl,Bp,w0,w1,w2,w3,w4,w5,w6,w7,w8,w9,Bc,Ba,B5,Bo,Be,Bm,Br,Bs,Bj,Bf,Mk,Nat.reduceAdd,Nat.reduceSub,Nat.reduceMul,Nat.reduceMod,Nat.reduceDiv,Q0,U,hsix,H5,hA,a1,Et,Qf,ec,b1,hst]
theorem clr6 {p:K4} {o c:Nat} {ex:Bool} {h:Heap} (κ:Heap->R):P6 false [iW 0, iL 0, iI 0, iL 0, iI 0, .nil .sl] (.sl p o 1 c ex 6) h κ=CV h p o (.l [iW 0, iL 0, iI 0, iL 0, iI 0, .nil .sl]) κ := by
  show G3 [iW 0, iL 0, iI 0, iL 0, iI 0, V.nil .sl] (fun m => br (Nat.beq m 6) (br (Nat.beq 1 0) (κ h) (EV false [iW 0, iL 0, iI 0, iL 0, iI 0, .nil .sl] 1 fun y => CV h p o y κ)) (.fail ""))=_
  rw [CE]; rfl
/-- The tenants but one. -/
def outT (ps:List (Ten×V)) (id:Nat):List (Ten×V) := ps.filter fun x => decide (x.1.id≠id)
theorem outT_none {ps:List (Ten×V)} {id:Nat} (h:∀ x∈ps, x.1.id≠id):outT ps id=ps := List.filter_eq_self.2 fun x hx => decide_eq_true (h x hx)
theorem outT_one {a b:List (Ten×V)} {y:Ten×V} {id:Nat} (hy:y.1.id=id) (O:((a++y::b).map fun x => x.1.id).Pairwise (· < ·)):outT (a++y::b) id=a++b∧(∀ x∈b, x.1.id≠id) := by
  rw [List.map_append, List.map_cons, List.pairwise_append] at O
  obtain ⟨o1, o2, o3⟩ := O
  rw [List.pairwise_cons] at o2
  have ha:∀ x∈a, x.1.id≠id := fun x hx => by
    have := o3 x.1.id (List.mem_map_of_mem hx) y.1.id List.mem_cons_self
    omega
  have hb:∀ x∈b, x.1.id≠id := fun x hx => by
    have := o2.1 x.1.id (List.mem_map_of_mem hx)
    omega
  refine ⟨?_, hb⟩
  unfold outT
  rw [List.filter_append, List.filter_cons_of_neg (by simp [hy]), List.filter_eq_self.2 fun x hx => decide_eq_true (ha x hx), List.filter_eq_self.2 fun x hx => decide_eq_true (hb x hx)]
/-- DeleteFunc, and an append behind it. -/
theorem delapp {m lo:Nat} {h:Heap} {n pt:K4} {v:V} {ps:List (Ten×V)} {t:Ten×V} (H:TN lo n h v ps) (hk:ps.length≤100) (O:(ps.map fun x => x.1.id).Pairwise (· < ·)) (ht:A8 pt h=some (.c (.l (tc t)) false none)) (hpt:pt.toN<lo) (hn:n.toN<55000) :
    ∃ h1 n1 w h2 n2 w2, Ak tab (m+3) ⟨.d0, .d4, .d5⟩ [v, .fn 70 [.ptr pt 0]] h n = .rv w h1 n1∧(∀ κ:KV, BK 6 64 w 1 (.l (tc t)) (Ac n1 h1 (some (.c (.l (tc t)) false none))) n1.up κ=κ w2 h2 n2) ∧
      n.toN≤n1.toN∧n1.toN≤n.toN+ps.length*3∧n1.toN≤n2.toN∧n2.toN≤n1.toN+2∧LS h2 n2 [] 6 w2 (flatP (outT ps t.1.id++[t])) ((outT ps t.1.id).length+1)∧(∀ x∈outT ps t.1.id, LS h2 n2 [] 1 x.2 (x.1.segs.map (V.int .i64)) x.1.segs.length) ∧
      (∀ q:K4, q.toN<lo->A8 q h2=A8 q h)∧(Al h n->Al h2 n2)∧(∀ q:K4, q.toN<lo->A8 q h1=A8 q h) := by
  have HT := H.tl [] (fun q hq => by cases hq)
  obtain ⟨nn, g1', g2', LO, segs⟩ := H
  have hln := HT.1.len (by omega)
  obtain ⟨h1, n1, b1, b2, f1, r1, fin⟩ := ixT_ok (m := m) hk HT ht (by omega) (by omega)
  have sub:∀ x∈outT ps t.1.id, x∈ps := fun x hx => (List.mem_filter.1 hx).1
  rcases LO with ⟨rfl, c1, c2⟩ | ⟨p, ex, rfl, p1, p2, p3, p4⟩
  · obtain rfl := List.length_eq_zero_iff.1 c2
    rcases fin with ⟨_, e1⟩ | ⟨r, hr, _⟩
    · have u1 := K4.up_toN (p := n1) (by omega)
      have u2 := K4.up_toN (p := n1.up) (by omega)
      have L0:LS (Ac n1.up (Ac n1 h1 (some (.c (.l (tc t)) false none))) (some (.c (.l (tc t)) false none))) n1.up.up [] 6 (.sl n1.up 0 1 1 false 6) (tc t) 1 := .inr ⟨n1.up, 0, 1, false, tc t, false, none, rfl, A7 _ _ _, by simp, by simp, by omega, fun q hq => by cases hq⟩
      refine ⟨h1, n1, .nil .sl, _, n1.up.up, .sl n1.up 0 1 1 false 6, ?_, fun κ => ?_, b1, by omega, by omega, by omega, L0, (fun x hx => by cases hx), fun q hq => ?_, fun hf q hq => ?_, fun q hq => f1 q (by omega)⟩
      · rw [call2_at, show B0 ⟨.d0, .d4, .d5⟩ tab=some x69 from rfl, x69_L, x69L]
        simp (disch := omega) only [qa,g0,g1,g2,g3,g4,g5,g6,g7,g8,g9,Bb,B9,B7,Bd,Bq,Bi,Bt,Bk,Bl,Bp,w0,w1,w2,w3,w4,w5,w6,w7,w8,w9,Bc,Ba,B5,Bo,Be,Bm,Br,Bs,Bj,Bf,Mk,Nat.reduceAdd,Nat.reduceSub,Nat.reduceMul,Nat.reduceMod,Nat.reduceDiv,Q0,U,en1,e1]
      · rw [Qy (by decide) (by decide) (by omega)]
      · rw [Aj (by omega), Aj (by omega)]; exact f1 q (by omega)
      · rw [Aq (by omega), Aq (by omega)]; exact r1 hf q (by omega)
    · cases hr
  · rcases fin with ⟨hne, e1⟩ | ⟨r, hr, hid, e1⟩
    · have u1 := K4.up_toN (p := n1) (by omega)
      have u2 := K4.up_toN (p := n1.up) (by omega)
      have eo := outT_none hne
      have hp1:A8 p (Ac n1 h1 (some (.c (.l (tc t)) false none)))=some (.c (.l (flatP ps)) false none) := (Aj (by omega) _ _).trans ((f1 p (by omega)).trans p1)
      obtain ⟨h2, pr, e2, q2, f2, r2⟩ := Aao (eb := 64) (ex := ex) (b := tc t) (m := 1) (n := n1.up) hp1 p2 (by decide) (by omega) (by omega) (by omega)
      rw [eo]
      refine ⟨h1, n1, .sl p 0 ps.length ps.length ex 6, h2, n1.up.up, .sl n1.up 0 (ps.length+1) (ps.length+1) false 6, ?_, fun κ => ?_, b1, by omega, by omega, by omega, .inr ⟨n1.up, 0, _, false, _, false, pr, rfl, q2, ?_, ?_, by omega, fun q hq => by cases hq⟩, fun x hx => ?_, fun q hq => ?_, fun hf => r2 fun q hq => (Aq (by omega) _ _).trans (r1 hf q (by omega)), fun q hq => f1 q (by omega)⟩
      · rw [call2_at, show B0 ⟨.d0, .d4, .d5⟩ tab=some x69 from rfl, x69_L, x69L]
        simp (disch := omega) only [qa,g0,g1,g2,g3,g4,g5,g6,g7,g8,g9,Bb,B9,B7,Bd,Bq,Bi,Bt,Bk,Bl,Bp,w0,w1,w2,w3,w4,w5,w6,w7,w8,w9,Bc,Ba,B5,Bo,Be,Bm,Br,Bs,Bj,Bf,Mk,Nat.reduceAdd,Nat.reduceSub,Nat.reduceMul,Nat.reduceMod,Nat.reduceDiv,Q0,U,en1,e1]
      · rw [e2]
      · rw [List.length_append, flatP_len]; show _≤_+6; omega
      · rw [List.drop_zero, flatP_app, List.take_of_length_le (by rw [List.length_append, flatP_len]; show _+6≤_; omega)]; rfl
      · exact ((segs x hx).ls (Nat.le_refl _) [p] (fun q hq => by rw [List.mem_singleton.1 hq]; exact .inl p4)).frame (by omega) fun q hq hqp => ⟨(f2 q (by omega) (hqp p (by simp))).trans ((Aj (by omega) _ _).trans (f1 q hq)), fun q hq => by cases hq⟩
      · exact (f2 q (by omega) (K4.ne_of_lt (by omega))).trans ((Aj (by omega) _ _).trans (f1 q (by omega)))
    · have hsplit:ps.take r++ps[r]::ps.drop (r+1)=ps := by rw [←List.drop_eq_getElem_cons hr, List.take_append_drop]
      obtain ⟨eo, hne⟩ := outT_one (a := ps.take r) (b := ps.drop (r+1)) (y := ps[r]) hid (by rw [hsplit]; exact O)
      rw [hsplit] at eo
      have htl:(ps.take r).length=r := by rw [List.length_take]; omega
      obtain ⟨h3, n3, y3, b3, b4, f3, r3, q3, e3⟩ := df_loop (m := m+1) (k := ps.length) (p := p) (pt := pt) (ex := ex) (t := t) (by omega) (K4.ne_of_lt (by omega)) (ps.drop (r+1)) (ps.take r) ps[r] h1 n1 (by rw [htl, List.length_drop]; omega) (by rw [hsplit]; exact (f1 p (by omega)).trans p1) ((f1 pt (by omega)).trans ht) hne (by omega) (by omega) (by rw [List.length_drop]; omega)
      rw [←eo] at q3
      have hol:(outT ps t.1.id).length=ps.length - 1 := by rw [eo, List.length_append, htl, List.length_drop]; omega
      have eK := e3 (999999999 - (ps.drop (r+1)).length)
      rw [show 999999999 - (ps.drop (r+1)).length+(ps.drop (r+1)).length+1=999999999+1 by rw [List.length_drop]; omega, BN, htl] at eK
      simp only [Q0] at eK
      rw [List.length_drop] at b4
      have u3 := K4.up_toN (p := n3) (by omega)
      have hfl:(flatP (outT ps t.1.id++[y3])).length=ps.length*6 := by rw [flatP_len, List.length_append, hol]; simp; omega
      have hzl:∀ κ:Heap->R, CV h3 p ((ps.length - 1)*6) (.l [iW 0, iL 0, iI 0, iL 0, iI 0, .nil .sl]) κ=κ (Ac p h3 (some (.c (.l (flatP (outT ps t.1.id)++[iW 0, iL 0, iI 0, iL 0, iI 0, .nil .sl])) false none))) := fun κ => by
        rw [Zd q3 (by rw [hfl]; simp; omega)]
        have e5:(flatP (outT ps t.1.id++[y3])).take ((ps.length - 1)*6)=flatP (outT ps t.1.id) := by rw [flatP_app, List.take_left' (by rw [flatP_len, hol])]
        have e6:(flatP (outT ps t.1.id++[y3])).drop ((ps.length - 1)*6+[iW 0, iL 0, iI 0, iL 0, iI 0, V.nil .sl].length)=[] := List.drop_eq_nil_of_le (by rw [hfl]; simp; omega)
        rw [e5, e6, List.append_nil]; rfl
      have hk1:ps.length - (ps.length - 1)=1 := by omega
      generalize hC:Ac p h3 (some (.c (.l (flatP (outT ps t.1.id)++[iW 0, iL 0, iI 0, iL 0, iI 0, .nil .sl])) false none))=Ch at hzl
      have c1:A8 p (Ac n3 Ch (some (.c (.l (tc t)) false none)))=some (.c (.l (flatP (outT ps t.1.id)++[iW 0, iL 0, iI 0, iL 0, iI 0, .nil .sl])) false none) := by rw [Aj (by omega), ←hC, A7]
      have hal:(flatP (outT ps t.1.id)++[iW 0, iL 0, iI 0, iL 0, iI 0, V.nil .sl]).length=ps.length*6 := by rw [List.length_append, flatP_len, hol]; simp; omega
      have hkk:ps.length - 1+1=ps.length := by omega
      have ea := fun κ:KV => Xf (z := 6) (eb := 64) (ex := ex) (k := ps.length - 1) (m := 1) (cap := ps.length) (b := tc t) (n := n3.up) c1 (by decide) (by omega) (by rw [hal]; simp; omega) κ
      have e7:(flatP (outT ps t.1.id)++[iW 0, iL 0, iI 0, iL 0, iI 0, V.nil .sl]).take ((ps.length - 1)*6)=flatP (outT ps t.1.id) := by rw [List.take_left' (by rw [flatP_len, hol])]
      have e8:(flatP (outT ps t.1.id)++[iW 0, iL 0, iI 0, iL 0, iI 0, V.nil .sl]).drop ((ps.length - 1)*6+(tc t).length)=[] := List.drop_eq_nil_of_le (by rw [hal]; simp; omega)
      rw [e7, e8, List.append_nil, hkk] at ea
      have e9:flatP (outT ps t.1.id)++tc t=flatP (outT ps t.1.id++[t]) := by rw [flatP_app]; rfl
      rw [e9] at ea
      refine ⟨Ch, n3, .sl p 0 (ps.length - 1) ps.length ex 6, _, n3.up, .sl p 0 ps.length ps.length ex 6, ?_, ea, by omega, by omega, by omega, by omega, .inr ⟨p, 0, ps.length, ex, _, false, none, by rw [hol, hkk], A7 _ _ _, ?_, ?_, by omega, fun q hq => by cases hq⟩, fun x hx => ?_, fun q hq => ?_, fun hf q hq => ?_, fun q hq => ?_⟩
      · rw [call2_at, show B0 ⟨.d0, .d4, .d5⟩ tab=some x69 from rfl, x69_L, x69L]
        simp (config := {maxSteps := 3000000}) (disch := omega) only [qa,g0,g1,g2,g3,g4,g5,g6,g7,g8,g9,Bb,B9,B7,Bd,Bq,Bi,Bt,Bk,Bl,Bp,w0,w1,w2,w3,w4,w5,w6,w7,w8,w9,Bc,Ba,B5,Bo,Be,Bm,Br,Bs,Bj,Bf,Mk,Nat.reduceAdd,Nat.reduceSub,Nat.reduceMul,Nat.reduceMod,Nat.reduceDiv,Q0,U,en1,e1,Cg,eK,YH,Z3,hk1,clr6,hzl]
      · rw [flatP_len]; simp
      · rw [List.drop_zero, List.take_of_length_le (by rw [flatP_len]; simp)]
      · refine ((segs x (sub x hx)).ls (Nat.le_refl _) [p] (fun q hq => by rw [List.mem_singleton.1 hq]; exact .inl p4)).frame (by omega) fun q hq hqp => ⟨?_, fun q hq => by cases hq⟩
        rw [A6 _ _ (hqp p (by simp)).symm]
        show A8 q (Ac n3 Ch _)=_
        rw [Aj (by omega), ←hC, A6 _ _ (hqp p (by simp)).symm, f3 q (by omega) (hqp p (by simp)), f1 q hq]
      · have hqp:q≠p := K4.ne_of_lt (by omega)
        rw [A6 _ _ hqp.symm]
        show A8 q (Ac n3 Ch _)=_
        rw [Aj (by omega), ←hC, A6 _ _ hqp.symm, f3 q (by omega) hqp, f1 q (by omega)]
      · rw [Aq (by omega)]
        show A8 q (Ac n3 Ch _)=_
        rw [Aq (by omega), ←hC, Aq (by omega)]
        exact r3 (r1 hf) q (by omega)
      · rw [←hC, A6 _ _ (K4.ne_of_lt (by omega)).symm, f3 q (by omega) (K4.ne_of_lt (by omega)), f1 q (by omega)]
theorem nan_u {m a:Nat} {h:Heap} {n:K4}:Ak tab (m+1) ⟨.d0, .d6, .d0⟩ [.int .u32 a] h n = .rv (.bool false) h n := by
  rw [call2_at, show B0 ⟨.d0, .d6, .d0⟩ tab=some x96 from rfl, x96]
  simp (disch := omega) only [qa,g0,g1,g2,g3,g4,g5,g6,g7,g8,g9,Bb,B9,B7,Bd,Bq,Bi,Bt,Bk,Bl,Bp,w0,w1,w2,w3,w4,w5,w6,w7,w8,w9,Bc,Ba,B5,Bo,Be,Bm,Br,Bs,Bj,Bf,Mk,Nat.reduceAdd,Nat.reduceSub,Nat.reduceMul,Nat.reduceMod,Nat.reduceDiv,Q0,U,en3]
theorem cmp_u {m a b:Nat} (ha:a<4294967296) (hb:b<4294967296) {h:Heap} {n:K4}:∃ r, Ak tab (m+2) ⟨.d0, .d4, .d10⟩ [.int .u32 a, .int .u32 b] h n = .rv (.int .i64 r) h n∧Dz .i64 r 0=decide (a<b) := by
  rcases Nat.lt_trichotomy a b with hc | rfl | hc
  · refine ⟨18446744073709551615, ?_, by rw [MN (by omega) (by omega), decide_eq_true hc]⟩
    rw [call2_at, show B0 ⟨.d0, .d4, .d10⟩ tab=some x74 from rfl, x74]
    simp (disch := omega) only [qa,g0,g1,g2,g3,g4,g5,g6,g7,g8,g9,Bb,B9,B7,Bd,Bq,Bi,Bt,Bk,Bl,Bp,w0,w1,w2,w3,w4,w5,w6,w7,w8,w9,Bc,Ba,B5,Bo,Be,Bm,Br,Bs,Bj,Bf,Mk,Nat.reduceAdd,Nat.reduceSub,Nat.reduceMul,Nat.reduceMod,Nat.reduceDiv,Q0,U,en1,nan_u,Pi]
  · refine ⟨0, ?_, by rw [Ka (by omega) (by omega), decide_eq_false (by omega), decide_eq_false (by omega)]⟩
    rw [call2_at, show B0 ⟨.d0, .d4, .d10⟩ tab=some x74 from rfl, x74]
    simp (disch := omega) only [qa,g0,g1,g2,g3,g4,g5,g6,g7,g8,g9,Bb,B9,B7,Bd,Bq,Bi,Bt,Bk,Bl,Bp,w0,w1,w2,w3,w4,w5,w6,w7,w8,w9,Bc,Ba,B5,Bo,Be,Bm,Br,Bs,Bj,Bf,Mk,Nat.reduceAdd,Nat.reduceSub,Nat.reduceMul,Nat.reduceMod,Nat.reduceDiv,Q0,U,en1,nan_u,Pi]
  · refine ⟨1, ?_, by rw [Ka (by omega) (by omega), decide_eq_false (by omega), decide_eq_false (by omega)]⟩
    rw [call2_at, show B0 ⟨.d0, .d4, .d10⟩ tab=some x74 from rfl, x74]
    simp (disch := omega) only [qa,g0,g1,g2,g3,g4,g5,g6,g7,g8,g9,Bb,B9,B7,Bd,Bq,Bi,Bt,Bk,Bl,Bp,w0,w1,w2,w3,w4,w5,w6,w7,w8,w9,Bc,Ba,B5,Bo,Be,Bm,Br,Bs,Bj,Bf,Mk,Nat.reduceAdd,Nat.reduceSub,Nat.reduceMul,Nat.reduceMod,Nat.reduceDiv,Q0,U,en1,nan_u,Pi]
theorem cmp_cl {m:Nat} {h:Heap} {n:K4} {x y:Ten×V} (hx:x.1.id<4294967296) (hy:y.1.id<4294967296) (hn:n.toN<65000) :
    ∃ r, Ak tab (m+3) (B2 73) [.agg (tc x), .agg (tc y)] h n = .rv (.int .i64 r) (Ac n.up (Ac n h (some (.c (.l (tc x)) false none))) (some (.c (.l (tc y)) false none))) n.up.up∧Dz .i64 r 0=decide (x.1.id<y.1.id) := by
  have u1 := K4.up_toN (p := n) (by omega)
  obtain ⟨r, e, hr⟩ := cmp_u (m := m) hx hy (h := Ac n.up (Ac n h (some (.c (.l (tc x)) false none))) (some (.c (.l (tc y)) false none))) (n := n.up.up)
  refine ⟨r, ?_, hr⟩
  rw [call2_at, show B0 (B2 73) tab=some x73 from rfl, x73]
  simp (disch := omega) only [qa,g0,g1,g2,g3,g4,g5,g6,g7,g8,g9,Bb,B9,B7,Bd,Bq,Bi,Bt,Bk,Bl,Bp,w0,w1,w2,w3,w4,w5,w6,w7,w8,w9,Bc,Ba,B5,Bo,Be,Bm,Br,Bs,Bj,Bf,Mk,Nat.reduceAdd,Nat.reduceSub,Nat.reduceMul,Nat.reduceMod,Nat.reduceDiv,Q0,U,en1,e]
theorem len7 {m k:Nat} {h:Heap} {n:K4} (hk:k≤7):∃ L, Ak tab (m+4) ⟨.d0, .d5, .d15⟩ [.int .u64 k] h n = .rv (.int .i64 L) h n := by
  rcases (by omega:k=0∨k=1∨k=2∨k=3∨k=4∨k=5∨k=6∨k=7) with rfl | rfl | rfl | rfl | rfl | rfl | rfl | rfl
  · exact ⟨0, by kernel_rfl⟩
  · exact ⟨1, by kernel_rfl⟩
  · exact ⟨2, by kernel_rfl⟩
  · exact ⟨2, by kernel_rfl⟩
  · exact ⟨3, by kernel_rfl⟩
  · exact ⟨3, by kernel_rfl⟩
  · exact ⟨3, by kernel_rfl⟩
  · exact ⟨3, by kernel_rfl⟩
noncomputable def iiB (c:Ei):S->Heap->K4->R := fun t h n=>g5 t fun z6=>mV z6 fun z7=>g1 t fun z8=>mV z8 fun z9=>AX (Cb z7 z9 AD) fun za=>mV za fun zb=>g3 t fun zc=>gA zb (AD zc) fun zd=>g0 t fun ze=>gA zb (AD ze) fun zf=>gA zb (AD z6) fun zg=>gA zb (AG 6 zf zg AD) fun zh=>gA zb (C0 6 zh h AD) fun zi=>gA zb (AD ze) fun zj=>gA zb (AD z6) fun zk=>gA zb (B3 zk (iI 1) AD) fun zl=>gA zb (AG 6 zj zl AD) fun zm=>gA zb (C0 6 zm h AD) fun zn=>Bu true zb h n (fun k=>FL (GD c zd [zi,zn] h n .rv) k) fun zo h n=>gA zb (AO zo (iI 0) AD) fun zp=>AX (AF zb zp (.bool false) AD) fun zq=>AZ zq (Ah 3 (mV ze fun zr=>mV z6 fun zs=>mV ze fun zt=>mV z6 fun zu=>AX (B3 zu (iI 1) AD) fun zv=>mV ze fun zw=>mV z6 fun zx=>AX (B3 zx (iI 1) AD) fun zy=>AX (AG 6 zw zy AD) fun zz=>AX (C0 6 zz h AD) fun z10=>mV ze fun z11=>mV z6 fun z12=>AX (AG 6 z11 z12 AD) fun z13=>AX (C0 6 z13 h AD) fun z14=>AX (AG 6 zr zs AD) fun z15=>FL (Di 6 z15 z10 h fun h=>.rv U h n) fun z16 h n=>AX (AG 6 zt zv AD) fun z17=>FL (Di 6 z17 z14 h fun h=>.rv U h n) fun z18 h n=>nR t h n) fun t h n=>g5 t fun z19=>B3 z19 (iI 1) fun z1a=>w5 t z1a fun t=>nR t h n)<|.ok (.exit 2) t h n
noncomputable def isB (c:Ei):S->Heap->K4->R := fun t h n=>g4 t fun z3=>g2 t fun z4=>AO z3 z4 fun z5=>AZ z5 (Ah 1 (Ah 2 (w5 t z3 fun t=>B8 ((iiB c)) t h n) fun t h n=>nR t h n) fun t h n=>g4 t fun z1b=>AM z1b (iI 1) fun z1c=>w4 t z1c fun t=>nR t h n)<|.ok (.exit 0) t h n
noncomputable def x106L:Ent := .code en4 (fun c t h n=>g1 t fun z1=>AM z1 (iI 1) fun z2=>Ah 0 (w4 t z2 fun t=>B8 (isB c) t h n) fun t h n=>nR t h n) (fun t h n=>.rv (.tup []) h n)
theorem x106_L:x106=x106L := rfl
/-- By their names. -/
def Srt (l:List (Ten×V)):Prop := (l.map fun x => x.1.id).Pairwise (· ≤ ·)
theorem Srt.app {a b:List (Ten×V)}:Srt (a++b) ↔ Srt a∧Srt b ∧ ∀ x∈a, ∀ y∈b, x.1.id≤y.1.id := by
  unfold Srt
  rw [List.map_append, List.pairwise_append]
  simp only [List.mem_map,forall_exists_index,and_imp,forall_apply_eq_imp_iff₂]
theorem ii_loop {m k i b:Nat} {p:K4} {ex:Bool} (hk:k≤100) :
    ∀ (j:Nat) (A B:List (Ten×V)) (x:Ten×V) (h:Heap) (n:K4), A.length=j->A.length+1+B.length=k->(∀ y∈A, y.1.id<4294967296)->x.1.id<4294967296->Srt A->A8 p h=some (.c (.l (flatP (A++x::B))) false none)->p.toN<n.toN->n.toN+j*2<60000 →
    ∃ h' n' A1 A2 j', A=A1++A2∧(∀ y∈A2, x.1.id≤y.1.id)∧(∀ y∈A1, y.1.id≤x.1.id)∧A8 p h'=some (.c (.l (flatP (A1++x::(A2++B)))) false none)∧n.toN≤n'.toN∧n'.toN≤n.toN+j*2∧(∀ q:K4, q.toN<n.toN->q≠p->A8 q h'=A8 q h)∧(Al h n->Al h' n') ∧
      ∀ K, Cr (iiB (Ak tab (m+3))) (K+j+1) (.mk (.mk (.sl p 0 k k ex 6) (.int .i64 0) (.int .i64 b) (.fn 73 [])) (.mk (.int .i64 i) (.int .i64 j) Ar Ar) Q0 Q0 Q0 Q0 Q0 Q0) h n = .ok (.exit 2) (.mk (.mk (.sl p 0 k k ex 6) (.int .i64 0) (.int .i64 b) (.fn 73 [])) (.mk (.int .i64 i) (.int .i64 j') Ar Ar) Q0 Q0 Q0 Q0 Q0 Q0) h' n' := by
  intro j
  induction j with
  | zero =>
    intro A B x h n hA hl hid hx hs hp hpn hn
    obtain rfl := List.length_eq_zero_iff.1 hA
    refine ⟨h, n, [], [], 0, rfl, (fun y hy => by cases hy), (fun y hy => by cases hy), hp, by omega, by omega, fun q _ _ => rfl, fun h => h, fun K => ?_⟩
    rw [BN]
    unfold iiB
    simp (disch := omega) only [qa,g0,g1,g2,g3,g4,g5,g6,g7,g8,g9,Bb,B9,B7,Bd,Bq,Bi,Bt,Bk,Bl,Bp,w0,w1,w2,w3,w4,w5,w6,w7,w8,w9,Bc,Ba,B5,Bo,Be,Bm,Br,Bs,Bj,Bf,Mk,Nat.reduceAdd,Nat.reduceSub,Nat.reduceMul,Nat.reduceMod,Nat.reduceDiv,Q0,U,D9,DJ,EN,EO,FF,FG]
  | succ j ih =>
    intro A B x h n hA hl hid hx hs hp hpn hn
    rcases List.eq_nil_or_concat A with rfl | ⟨A', y, rfl⟩
    · cases hA
    simp only [List.concat_eq_append,List.length_append,List.length_cons,List.length_nil,Nat.zero_add] at hA hl
    simp only [List.concat_eq_append] at hid hs hp
    have hy:y.1.id<4294967296 := hid y (by simp)
    have hA':A'.length=j := by omega
    have u1 := K4.up_toN (p := n) (by omega)
    have u2 := K4.up_toN (p := n.up) (by omega)
    obtain ⟨sA, sy, sAy⟩ := Srt.app.1 hs
    have hsx:∀ (hh:Heap) (κ:V->R), A8 p hh=some (.c (.l (flatP ((A'++[y])++x::B))) false none)->KC (A8 p hh) 6 ((j+1)*6) κ=κ (.agg (tc x)) := fun hh κ hpp => by
      rw [hpp, Oh (by rw [flatP_len]; simp; omega), flat_six (by simp [hA'])]; rfl
    have hsy:∀ (hh:Heap) (κ:V->R), A8 p hh=some (.c (.l (flatP ((A'++[y])++x::B))) false none)->KC (A8 p hh) 6 (j*6) κ=κ (.agg (tc y)) := fun hh κ hpp => by
      rw [hpp, Oh (by rw [flatP_len]; simp; omega), List.append_assoc, List.cons_append, flat_six hA']; rfl
    obtain ⟨r, ec, hr⟩ := cmp_cl (m := m) (h := h) (n := n) hx hy (by omega)
    generalize hB:Ac n.up (Ac n h (some (.c (.l (tc x)) false none))) (some (.c (.l (tc y)) false none))=Bh at ec
    have b2:∀ q:K4, q.toN<n.toN->A8 q Bh=A8 q h := fun q hq => by rw [←hB, Aj (by omega), Aj (by omega)]
    have b3:Al h n->Al Bh n.up.up := fun hf q hq => by rw [←hB, Aq (by omega), Aq (by omega)]; exact hf q (by omega)
    have hpB := (b2 p hpn).trans hp
    have e1 := fun κ => hsx h κ hp
    have e2 := fun κ => hsy h κ hp
    have e3 := fun κ => hsx Bh κ hpB
    have e4 := fun κ => hsy Bh κ hpB
    have hsub:j+1 - 1=j := by omega
    by_cases hc:x.1.id<y.1.id
    · rw [decide_eq_true hc] at hr
      have st1:∀ κ:Heap->R, Di 6 (.ptr p ((j+1)*6)) (.agg (tc y)) Bh κ=κ (Ac p Bh (some (.c (.l (flatP ((A'++[y])++y::B))) false none))) := fun κ => by
        rw [SN (m := 6) (b := tc y) (off := (j+1)*6) hpB rfl (by rw [flatP_len]; simp; omega)]
        show κ (Ac p Bh (some (.c (.l ((flatP ((A'++[y])++x::B)).take ((j+1)*6)++(y.1.c y.2++(flatP ((A'++[y])++x::B)).drop ((j+1)*6+6)))) false none)))=_
        rw [flat_put (by simp [hA'])]
      have st2:∀ κ:Heap->R, Di 6 (.ptr p (j*6)) (.agg (tc x)) (Ac p Bh (some (.c (.l (flatP ((A'++[y])++y::B))) false none))) κ=κ (Ac p Bh (some (.c (.l (flatP (A'++x::y::B))) false none))) := fun κ => by
        rw [SN (m := 6) (b := tc x) (off := j*6) (A7 _ _ _) rfl (by rw [flatP_len]; simp; omega)]
        show κ (Ac p (Ac p Bh _) (some (.c (.l ((flatP ((A'++[y])++y::B)).take (j*6)++(x.1.c x.2++(flatP ((A'++[y])++y::B)).drop (j*6+6)))) false none)))=_
        rw [List.append_assoc, List.cons_append, flat_put hA', HE]; rfl
      obtain ⟨h3, n3, A1, A2, j', k1, k2, k3, p3, c1, c2, f3, r3, e5⟩ := ih A' (y::B) x (Ac p Bh (some (.c (.l (flatP (A'++x::y::B))) false none))) n.up.up hA' (by simp only [List.length_cons]; omega) (fun z hz => hid z (List.mem_append_left _ hz)) hx sA (A7 _ _ _) (by omega) (by omega)
      refine ⟨h3, n3, A1, A2++[y], j', by rw [List.concat_eq_append, k1, List.append_assoc], fun z hz => ?_, k3, by rw [p3]; simp, by omega, by omega, fun q hq hqp => (f3 q (by omega) hqp).trans ((A6 _ _ (Ne.symm hqp)).trans (b2 q hq)), fun hf => r3 fun q hq => (Aq (by omega) _ _).trans (b3 hf q hq), fun K => ?_⟩
      · rcases List.mem_append.1 hz with hz | hz
        · exact k2 z hz
        · rw [List.mem_singleton.1 hz]; omega
      · rw [BN, show K+(j+1)=K+j+1 by omega, ←e5 K]
        generalize Cr (iiB (Ak tab (m+3))) (K+j+1)=G'
        unfold iiB
        simp (config := {maxSteps := 3000000}) (disch := omega) only [qa,g0,g1,g2,g3,g4,g5,g6,g7,g8,g9,Bb,B9,B7,Bd,Bq,Bi,Bt,Bk,Bl,Bp,w0,w1,w2,w3,w4,w5,w6,w7,w8,w9,Bc,Ba,B5,Bo,Be,Bm,Br,Bs,Bj,Bf,Mk,Nat.reduceAdd,Nat.reduceSub,Nat.reduceMul,Nat.reduceMod,Nat.reduceDiv,Q0,U,e1,e2,Sa,ec,hr,hsub,e3,e4,st1,st2,D9,DJ,EN,EO,FF,FG]
    · rw [decide_eq_false hc] at hr
      refine ⟨Bh, n.up.up, A'++[y], [], j+1, by simp, (fun z hz => by cases hz), fun z hz => ?_, by rw [hpB]; simp, by omega, by omega, fun q hq _ => b2 q hq, b3, fun K => ?_⟩
      · rcases List.mem_append.1 hz with hz | hz
        · have := sAy z hz y (by simp); omega
        · rw [List.mem_singleton.1 hz]; omega
      · rw [BN]
        unfold iiB
        simp (config := {maxSteps := 3000000}) (disch := omega) only [qa,g0,g1,g2,g3,g4,g5,g6,g7,g8,g9,Bb,B9,B7,Bd,Bq,Bi,Bt,Bk,Bl,Bp,w0,w1,w2,w3,w4,w5,w6,w7,w8,w9,Bc,Ba,B5,Bo,Be,Bm,Br,Bs,Bj,Bf,Mk,Nat.reduceAdd,Nat.reduceSub,Nat.reduceMul,Nat.reduceMod,Nat.reduceDiv,Q0,U,e1,e2,Sa,ec,hr,hsub,D9,DJ,EN,EO,FF,FG]
theorem is_loop {m k:Nat} {p:K4} {ex:Bool} (hk:k≤100) :
    ∀ (j:Nat) (A B:List (Ten×V)) (x5:V) (h:Heap) (n:K4), B.length=j->A.length+B.length=k->(∀ y∈A++B, y.1.id<4294967296)->Srt A->A8 p h=some (.c (.l (flatP (A++B))) false none)->p.toN<n.toN->n.toN+j*(2*k)<60000 →
    ∃ h' n' L x5', L.Perm (A++B)∧Srt L∧A8 p h'=some (.c (.l (flatP L)) false none)∧n.toN≤n'.toN∧n'.toN≤n.toN+j*(2*k)∧(∀ q:K4, q.toN<n.toN->q≠p->A8 q h'=A8 q h)∧(Al h n->Al h' n') ∧
      ∀ K, Cr (isB (Ak tab (m+3))) (K+j+1) (.mk (.mk (.sl p 0 k k ex 6) (.int .i64 0) (.int .i64 k) (.fn 73 [])) (.mk (.int .i64 A.length) x5 Ar Ar) Q0 Q0 Q0 Q0 Q0 Q0) h n = .ok (.exit 0) (.mk (.mk (.sl p 0 k k ex 6) (.int .i64 0) (.int .i64 k) (.fn 73 [])) (.mk (.int .i64 k) x5' Ar Ar) Q0 Q0 Q0 Q0 Q0 Q0) h' n' := by
  intro j
  induction j with
  | zero =>
    intro A B x5 h n hB hl hid hs hp hpn hn
    obtain rfl := List.length_eq_zero_iff.1 hB
    simp only [List.length_nil,Nat.add_zero] at hl
    refine ⟨h, n, A, x5, by simp, hs, by rw [hp, List.append_nil], by omega, by omega, fun q _ _ => rfl, fun h => h, fun K => ?_⟩
    rw [BN, hl]
    unfold isB
    simp (disch := omega) only [qa,g0,g1,g2,g3,g4,g5,g6,g7,g8,g9,Bb,B9,B7,Bd,Bq,Bi,Bt,Bk,Bl,Bp,w0,w1,w2,w3,w4,w5,w6,w7,w8,w9,Bc,Ba,B5,Bo,Be,Bm,Br,Bs,Bj,Bf,Mk,Nat.reduceAdd,Nat.reduceSub,Nat.reduceMul,Nat.reduceMod,Nat.reduceDiv,Q0,U]
  | succ j ih =>
    intro A B x5 h n hB hl hid hs hp hpn hn
    cases B with
    | nil => cases hB
    | cons x B =>
      simp only [List.length_cons] at hB hl
      rw [Nat.succ_mul] at hn
      obtain ⟨h1, n1, A1, A2, j', k1, k2, k3, p1, b1, b2, f1, r1, e1⟩ := ii_loop (m := m) (k := k) (i := A.length) (b := k) (ex := ex) hk A.length A B x h n rfl (by omega) (fun y hy => hid y (List.mem_append_left _ hy)) (hid x (by simp)) hs hp hpn (by omega)
      have hs1:Srt (A1++x::A2) := by
        rw [k1] at hs
        obtain ⟨s1, s2, s3⟩ := Srt.app.1 hs
        refine Srt.app.2 ⟨s1, ?_, fun y hy z hz => ?_⟩
        · show ((x::A2).map fun x => x.1.id).Pairwise (· ≤ ·)
          rw [List.map_cons, List.pairwise_cons]
          exact ⟨fun a ha => by obtain ⟨z, hz, rfl⟩ := List.mem_map.1 ha; exact k2 z hz, s2⟩
        · rcases List.mem_cons.1 hz with rfl | hz
          · exact k3 y hy
          · exact s3 y hy z hz
      have hl1:(A1++x::A2).length=A.length+1 := by rw [k1]; simp; omega
      have hperm:((A1++x::A2)++B).Perm (A++x::B) := by
        rw [k1]
        simp only [List.append_assoc,List.cons_append]
        refine List.perm_middle.trans (List.Perm.trans ?_ (List.Perm.append_left A1 (List.perm_middle.symm)))
        exact List.perm_middle.symm
      obtain ⟨h2, n2, L, x5', q1, q2, p2, b3, b4, f2, r2, e2⟩ := ih (A1++x::A2) B (.int .i64 j') h1 n1 (by omega) (by omega) (fun y hy => hid y (hperm.mem_iff.1 hy)) hs1 (by rw [p1]; simp) (by omega) (by omega)
      refine ⟨h2, n2, L, x5', q1.trans hperm, q2, p2, by omega, by rw [Nat.succ_mul]; omega, fun q hq hqp => (f2 q (by omega) hqp).trans (f1 q hq hqp), fun hf => r2 (r1 hf), fun K => ?_⟩
      rw [hl1] at e2
      have eK := e1 (999999999 - A.length)
      rw [show 999999999 - A.length+A.length+1=999999999+1 by omega, BN] at eK
      simp only [Q0] at eK
      rw [BN, show K+(j+1)=K+j+1 by omega, ←e2 K]
      generalize Cr (isB (Ak tab (m+3))) (K+j+1)=G'
      unfold isB
      simp (disch := omega) only [qa,g0,g1,g2,g3,g4,g5,g6,g7,g8,g9,Bb,B9,B7,Bd,Bq,Bi,Bt,Bk,Bl,Bp,w0,w1,w2,w3,w4,w5,w6,w7,w8,w9,Bc,Ba,B5,Bo,Be,Bm,Br,Bs,Bj,Bf,Mk,Nat.reduceAdd,Nat.reduceSub,Nat.reduceMul,Nat.reduceMod,Nat.reduceDiv,Q0,U,Cg,eK]
theorem ins_ok {m k:Nat} {p:K4} {ex:Bool} {ps:List (Ten×V)} {h:Heap} {n:K4} (hk:k≤100) (hl:ps.length=k) (hid:∀ y∈ps, y.1.id<4294967296) (hp:A8 p h=some (.c (.l (flatP ps)) false none)) (hpn:p.toN<n.toN) (hn:n.toN+k*(2*k)<60000) :
    ∃ h' n' L, Ak tab (m+4) ⟨.d0, .d6, .d10⟩ [.sl p 0 k k ex 6, .int .i64 0, .int .i64 k, .fn 73 []] h n = .rv (.tup []) h' n'∧L.Perm ps∧Srt L∧A8 p h'=some (.c (.l (flatP L)) false none)∧n.toN≤n'.toN∧n'.toN≤n.toN+k*(2*k)∧(∀ q:K4, q.toN<n.toN->q≠p->A8 q h'=A8 q h)∧(Al h n->Al h' n') := by
  cases ps with
  | nil =>
    obtain rfl:k=0 := hl.symm
    refine ⟨h, n, [], ?_, by simp, List.Pairwise.nil, hp, by omega, by omega, fun q _ _ => rfl, fun h => h⟩
    rw [call2_at, show B0 ⟨.d0, .d6, .d10⟩ tab=some x106 from rfl, x106_L, x106L]
    simp (disch := omega) only [qa,g0,g1,g2,g3,g4,g5,g6,g7,g8,g9,Bb,B9,B7,Bd,Bq,Bi,Bt,Bk,Bl,Bp,w0,w1,w2,w3,w4,w5,w6,w7,w8,w9,Bc,Ba,B5,Bo,Be,Bm,Br,Bs,Bj,Bf,Mk,Nat.reduceAdd,Nat.reduceSub,Nat.reduceMul,Nat.reduceMod,Nat.reduceDiv,Q0,U,en4,Cg]
    unfold isB
    simp (disch := omega) only [qa,g0,g1,g2,g3,g4,g5,g6,g7,g8,g9,Bb,B9,B7,Bd,Bq,Bi,Bt,Bk,Bl,Bp,w0,w1,w2,w3,w4,w5,w6,w7,w8,w9,Bc,Ba,B5,Bo,Be,Bm,Br,Bs,Bj,Bf,Mk,Nat.reduceAdd,Nat.reduceSub,Nat.reduceMul,Nat.reduceMod,Nat.reduceDiv,Q0,U]
  | cons x ps =>
    simp only [List.length_cons] at hl
    have hm:ps.length*(2*k)≤k*(2*k) := Nat.mul_le_mul_right _ (by omega)
    obtain ⟨h1, n1, L, x5', q1, q2, p1, b1, b2, f1, r1, e1⟩ := is_loop (m := m) (k := k) (ex := ex) hk ps.length [x] ps Ar h n rfl (by simp; omega) (by simpa using hid) (List.pairwise_singleton _ _) hp hpn (by omega)
    refine ⟨h1, n1, L, ?_, q1, q2, p1, b1, by omega, f1, r1⟩
    have eK := e1 (999999999 - ps.length)
    rw [show 999999999 - ps.length+ps.length+1=999999999+1 by omega, BN, show [x].length=1 from rfl] at eK
    simp only [Q0] at eK
    rw [call2_at, show B0 ⟨.d0, .d6, .d10⟩ tab=some x106 from rfl, x106_L, x106L]
    simp (disch := omega) only [qa,g0,g1,g2,g3,g4,g5,g6,g7,g8,g9,Bb,B9,B7,Bd,Bq,Bi,Bt,Bk,Bl,Bp,w0,w1,w2,w3,w4,w5,w6,w7,w8,w9,Bc,Ba,B5,Bo,Be,Bm,Br,Bs,Bj,Bf,Mk,Nat.reduceAdd,Nat.reduceSub,Nat.reduceMul,Nat.reduceMod,Nat.reduceDiv,Q0,U,en4,Cg,eK]
theorem pdq_ok {m k lim:Nat} {p:K4} {ex:Bool} {ps:List (Ten×V)} {h:Heap} {n:K4} (hk:k≤7) (hl:ps.length=k) (hid:∀ y∈ps, y.1.id<4294967296) (hp:A8 p h=some (.c (.l (flatP ps)) false none)) (hpn:p.toN<n.toN) (hn:n.toN<59000) :
    ∃ h' n' L, Ak tab (m+5) ⟨.d0, .d5, .d14⟩ [.sl p 0 k k ex 6, .int .i64 0, .int .i64 k, .int .i64 lim, .fn 73 []] h n = .rv (.tup []) h' n'∧L.Perm ps∧Srt L∧A8 p h'=some (.c (.l (flatP L)) false none)∧n.toN≤n'.toN∧n'.toN≤n.toN+98∧(∀ q:K4, q.toN<n.toN->q≠p->A8 q h'=A8 q h)∧(Al h n->Al h' n') := by
  have hkk:k*(2*k)≤7*(2*7) := Nat.mul_le_mul hk (Nat.mul_le_mul_left _ hk)
  obtain ⟨h1, n1, L, e1, q1, q2, p1, b1, b2, f1, r1⟩ := ins_ok (m := m) (ex := ex) (by omega) hl hid hp hpn (by omega)
  refine ⟨h1, n1, L, ?_, q1, q2, p1, b1, by omega, f1, r1⟩
  rw [call2_at, show B0 ⟨.d0, .d5, .d14⟩ tab=some x94 from rfl, x94]
  simp (disch := omega) only [qa,g0,g1,g2,g3,g4,g5,g6,g7,g8,g9,Bb,B9,B7,Bd,Bq,Bi,Bt,Bk,Bl,Bp,w0,w1,w2,w3,w4,w5,w6,w7,w8,w9,Bc,Ba,B5,Bo,Be,Bm,Br,Bs,Bj,Bf,Mk,Nat.reduceAdd,Nat.reduceSub,Nat.reduceMul,Nat.reduceMod,Nat.reduceDiv,Q0,U,en5,Cg,e1]
theorem sort_ok {m k:Nat} {p:K4} {ex:Bool} {ps:List (Ten×V)} {h:Heap} {n:K4} (hk:k≤7) (hl:ps.length=k) (hid:∀ y∈ps, y.1.id<4294967296) (hp:A8 p h=some (.c (.l (flatP ps)) false none)) (hpn:p.toN<n.toN) (hn:n.toN<59000) :
    ∃ h' n' L, Ak tab (m+6) ⟨.d0, .d4, .d8⟩ [.sl p 0 k k ex 6, .fn 73 []] h n = .rv (.tup []) h' n'∧L.Perm ps∧Srt L∧A8 p h'=some (.c (.l (flatP L)) false none)∧n.toN≤n'.toN∧n'.toN≤n.toN+98∧(∀ q:K4, q.toN<n.toN->q≠p->A8 q h'=A8 q h)∧(Al h n->Al h' n') := by
  obtain ⟨lim, e0⟩ := len7 (m := m+1) (k := k) (h := h) (n := n) hk
  obtain ⟨h1, n1, L, e1, q1, q2, p1, b1, b2, f1, r1⟩ := pdq_ok (m := m) (lim := lim) (ex := ex) hk hl hid hp hpn hn
  refine ⟨h1, n1, L, ?_, q1, q2, p1, b1, b2, f1, r1⟩
  rw [show m+1+4=m+5 from rfl] at e0
  rw [call2_at, show B0 ⟨.d0, .d4, .d8⟩ tab=some x72 from rfl, x72]
  simp (disch := omega) only [qa,g0,g1,g2,g3,g4,g5,g6,g7,g8,g9,Bb,B9,B7,Bd,Bq,Bi,Bt,Bk,Bl,Bp,w0,w1,w2,w3,w4,w5,w6,w7,w8,w9,Bc,Ba,B5,Bo,Be,Bm,Br,Bs,Bj,Bf,Mk,Nat.reduceAdd,Nat.reduceSub,Nat.reduceMul,Nat.reduceMod,Nat.reduceDiv,Q0,U,en1,cvi_64,e0,e1]
theorem all_ok {m:Nat} {h:Heap} {n mp sp:K4} {av:List K4} {lv:V} {ps:List (Ten×V)} (hm:A8 mp h=some (.c (.l [.ptr sp 0, lv]) false none)) (H:TL h n av lv ps) (hk:ps.length≤100) (hs:∀ x∈ps, x.1.segs.length≤100) (hn:n.toN<61000) :
    ∃ h' n' v' ps', Ak tab (m+3) ⟨.d0, .d2, .d12⟩ [.ptr mp 0] h n = .rv v' h' n'∧n.toN≤n'.toN∧n'.toN≤n.toN+2+2*ps.length∧TN n.toN n' h' v' ps'∧ps'.map Prod.fst=ps.map Prod.fst∧(∀ q:K4, q.toN<n.toN->A8 q h'=A8 q h)∧(Al h n->Al h' n') := by
  obtain ⟨h1, n1, v1, ps1, e1, r⟩ := copied_ok (m := m) H hk hs hn
  refine ⟨h1, n1, v1, ps1, ?_, r⟩
  rw [call2_at, show B0 ⟨.d0, .d2, .d12⟩ tab=some x44 from rfl, x44]
  simp (disch := omega) only [qa,g0,g1,g2,g3,g4,g5,g6,g7,g8,g9,Bb,B9,B7,Bd,Bq,Bi,Bt,Bk,Bl,Bp,w0,w1,w2,w3,w4,w5,w6,w7,w8,w9,Bc,Ba,B5,Bo,Be,Bm,Br,Bs,Bj,Bf,Mk,Nat.reduceAdd,Nat.reduceSub,Nat.reduceMul,Nat.reduceMod,Nat.reduceDiv,Q0,U,en3,hm,e1]
/-- A manifest on a disk; its tenants lie elsewhere than X. -/
def MS (h:Heap) (n f mp:K4) (av X:List K4) (ts:List Ten) (C:Nat):Prop := ∃ d x dm pc lm sp rd calls b k bs ys cv sv tv cur turn nxt text lv ps, av=[f, d, x, dm, pc, lm, sp, mp]∧SS h n f d x dm pc lm sp 100000 rd calls 18446744073709551615 b k bs ys cv sv tv cur turn nxt text ∧
  A8 mp h=some (.c (.l [.ptr sp 0, lv]) false none)∧mp.toN<n.toN∧(∀ q∈[f, d, x, dm, pc, lm, sp], mp≠q)∧ps.map Prod.fst=ts∧TL h n (av++X) lv ps∧bs.length=8192∧cur≤1∧calls≤C∧nxt≤C
def filT (ts:List Ten) (id:Nat):List Ten := ts.filter fun t => decide (t.id≠id)
theorem outT_fst (ps:List (Ten×V)) (id:Nat):(outT ps id).map Prod.fst=filT (ps.map Prod.fst) id := by
  unfold outT filT
  rw [List.filter_map]; rfl
/-- What is asked of a manifest's tenants. -/
structure Fine (ts:List Ten) (s:Nat):Prop where
  g:∀ t∈ts, Good t
  k:∀ t∈ts, okb t=true
  s:∀ t∈ts, t.segs.length≤s
  o:(ts.map Ten.id).Pairwise (· < ·)
  l:ts.length≤6
theorem srt_lt {ts us:List Ten} {t:Ten} (hp:us.Perm (filT ts t.id++[t])) (hs:(us.map Ten.id).Pairwise (· ≤ ·)) (O:(ts.map Ten.id).Pairwise (· < ·)):(us.map Ten.id).Pairwise (· < ·) := by
  have h1:((filT ts t.id++[t]).map Ten.id).Pairwise (· ≠ ·) := by
    rw [List.map_append, List.pairwise_append]
    refine ⟨?_, List.pairwise_singleton _ _, fun a ha b hb => ?_⟩
    · have:((filT ts t.id).map Ten.id).Pairwise (· < ·) := O.sublist (List.Sublist.map _ List.filter_sublist)
      exact this.imp fun h => Nat.ne_of_lt h
    · obtain ⟨x, hx, rfl⟩ := List.mem_map.1 ha
      rw [List.map_cons, List.map_nil, List.mem_singleton] at hb
      subst hb
      exact of_decide_eq_true (List.mem_filter.1 hx).2
  have h2:(us.map Ten.id).Pairwise (· ≠ ·) := ((hp.map Ten.id).pairwise_iff (fun h => Ne.symm h)).2 h1
  exact (hs.and h2).imp fun h => by omega
theorem rngO_6 (a b c d e f:V) (s:Bool) (pr:Option K4) (κ:Cs->R):TY (some (.c (.l [a, b, c, d, e, f]) s pr)) 0 6 κ=κ (.l [a, b, c, d, e, f]) := id rfl
theorem q_part6 (a b c d e f u v w x y z:V) (κ:List V->R):Fj 0 6 (.agg [a, b, c, d, e, f]) [u, v, w, x, y, z] κ=κ [a, b, c, d, e, f] := id rfl
theorem MS.more {h h':Heap} {n n' f mp:K4} {av X:List K4} {ts:List Ten} {C:Nat} (M:MS h n f mp av X ts C) (hn:n.toN≤n'.toN) (e:∀ q:K4, q.toN<n.toN->A8 q h'=A8 q h) (fr:Al h' n'):MS h' n' f mp av X ts C := by
  obtain ⟨d, x, dm, pc, lm, sp, rd, calls, b, k, bs, ys, cv, sv, tv, cur, turn, nxt, text, lv, ps, rfl, S, hm, lmp, nmp, hts, T, c1, c2, c3, c4⟩ := M
  have l := S.lt
  obtain ⟨es, ds, dk, hmm, ik⟩ := S.hm
  refine ⟨d, x, dm, pc, lm, sp, rd, calls, b, k, bs, ys, cv, sv, tv, cur, turn, nxt, text, lv, ps, rfl, ?_, (e mp lmp).trans hm, by omega, nmp, hts, T.more hn e, c1, c2, c3, c4⟩
  exact ⟨(e f (l f (by simp))).trans S.hf, (e d (l d (by simp))).trans S.hd, S.hb, (e lm (l lm (by simp))).trans S.hl, (e x (l x (by simp))).trans S.hx, ⟨es, ds, dk, (e dm (l dm (by simp))).trans hmm, ik⟩, S.own.frame (e pc (l pc (by simp))), S.oy.frame hn fun p hp hq => ⟨e p hp, hq⟩, (e sp (l sp (by simp))).trans S.hs, S.ot.frame hn fun p hp hq => ⟨e p hp, hq⟩, fr, S.nd, fun q hq => Nat.lt_of_lt_of_le (l q hq) hn⟩
theorem MS.fr {h:Heap} {n f mp:K4} {av X:List K4} {ts:List Ten} {C:Nat} (M:MS h n f mp av X ts C):Al h n := by
  obtain ⟨d, x, dm, pc, lm, sp, rd, calls, b, k, bs, ys, cv, sv, tv, cur, turn, nxt, text, lv, ps, rfl, S, _⟩ := M
  exact S.fr
set_option maxHeartbeats 2000000 in
theorem put_any {m s C:Nat} {h:Heap} {n f mp:K4} {av av2 X:List K4} {ts:List Ten} {t:Ten×V} (M:MS h n f mp av X ts C) (lX:∀ q∈X, q.toN<n.toN) (F:Fine ts s) (ht:Good t.1) (hts:t.1.segs.length≤s) (hs:s≤60) (LT:LS h n av2 1 t.2 (t.1.segs.map (V.int .i64)) t.1.segs.length) (hC:C<800000) (hn:n.toN<38000) :
    ∃ h' n' av' r, Ak tab (m+13) ⟨.d0, .d2, .d9⟩ [.ptr mp 0, .agg (tc t)] h n = .rv (.int .i64 r) h' n'∧n.toN≤n'.toN∧n'.toN≤n.toN+310+6*(90+s*17)∧(∀ q:K4, q.toN<n.toN->(∀ r∈av, q≠r)->A8 q h'=A8 q h ∧ ∀ r∈av', q≠r) ∧
      ((6<(filT ts t.1.id).length+1∧r=2∧MS h' n' f mp av' X ts C)∨((filT ts t.1.id).length+1≤6∧okb t.1=false∧r=5∧MS h' n' f mp av' X ts C) ∨
        ((filT ts t.1.id).length+1≤6∧okb t.1=true∧r=0 ∧ ∃ us, us.Perm (filT ts t.1.id++[t.1])∧Fine us s∧MS h' n' f mp av' X us (C+2))) := by
  have M0 := M
  obtain ⟨d, x, dm, pc, lm, sp, rd, calls, b, k, bs, ys, cv, sv, tv, cur, turn, nxt, text, lv, ps, rfl, S, hm, lmp, nmp, rfl, T, c1, c2, c3, c4⟩ := M
  have gl:ps.length≤6 := by have := F.l; simpa using this
  have gs:∀ x∈ps, x.1.segs.length≤s := fun x hx => F.s x.1 (List.mem_map_of_mem hx)
  have u1 := K4.up_toN (p := n) (by omega)
  -- its box
  generalize hA:Ac n h (some (.c (.l (tc t)) false none))=A
  have a1:A8 n A=some (.c (.l (tc t)) false none) := by rw [←hA, A7]
  have a2:∀ q:K4, q.toN<n.toN->A8 q A=A8 q h := fun q hq => by rw [←hA, Aj hq]
  have a3:Al A n.up := fun q hq => by rw [←hA, Aq (by omega)]; exact S.fr q (by omega)
  -- all
  obtain ⟨h1, n1, v1, ps1, e1, b1, b2, T1, m1, f1, r1⟩ := all_ok (m := m+9) (n := n.up) ((a2 mp lmp).trans hm) (T.more (by omega) a2) (by omega) (fun x hx => by have := gs x hx; omega) (by omega)
  have l1:ps1.length=ps.length := by have := congrArg List.length m1; simpa using this
  have O1:(ps1.map fun x => x.1.id).Pairwise (· < ·) := by
    have:ps1.map (fun x => x.1.id)=(ps1.map Prod.fst).map Ten.id := by rw [List.map_map]; rfl
    rw [this, m1]; exact F.o
  -- the others, and it
  obtain ⟨h2, n2, w, h3, n3, ww3, e2, e3, b3, b4, b5, b6, L3, Q3, f3, r3, f2⟩ := delapp (m := m+9) (pt := n) (t := t) T1 (by omega) O1 ((f1 n (by omega)).trans a1) (by omega) (by omega)
  have o1:(outT ps1 t.1.id).map Prod.fst=filT (ps.map Prod.fst) t.1.id := by rw [outT_fst, m1]
  have l3:(outT ps1 t.1.id).length=(filT (ps.map Prod.fst) t.1.id).length := by rw [←o1, List.length_map]
  have l3':(outT ps1 t.1.id).length≤ps1.length := List.length_filter_le _ _
  have k2:A8 n h2=some (.c (.l (tc t)) false none) := (f2 n (by omega)).trans ((f1 n (by omega)).trans a1)
  have k3:∀ q:K4, q.toN<n.toN->A8 q h3=A8 q h := fun q hq => (f3 q (by omega)).trans ((f1 q (by omega)).trans (a2 q hq))
  have T3:TL h3 n3 [] ww3 (outT ps1 t.1.id++[t]) := ⟨by rw [List.length_append]; exact L3, fun x hx => by
    rcases List.mem_append.1 hx with hx | hx
    · exact Q3 x hx
    · rw [List.mem_singleton.1 hx]
      exact LT.frame (by omega) fun q hq _ => ⟨k3 q hq, fun q hq => by cases hq⟩⟩
  have gs3:∀ x∈outT ps1 t.1.id++[t], x.1.segs.length≤s := fun x hx => by
    rcases List.mem_append.1 hx with hx | hx
    · have:x.1∈ps.map Prod.fst := by rw [←m1]; exact List.mem_map_of_mem (List.mem_filter.1 hx).1
      exact F.s _ this
    · rw [List.mem_singleton.1 hx]; exact hts
  -- copied
  obtain ⟨h4, n4, v4, ps4, e4, b7, b8, T4, m4, f4, r4⟩ := copied_ok (m := m+10) T3 (by rw [List.length_append]; simp; omega) (fun x hx => by have := gs3 x hx; omega) (by omega)
  have m4':ps4.map Prod.fst=filT (ps.map Prod.fst) t.1.id++[t.1] := by rw [m4, List.map_append, o1]; rfl
  have l4:ps4.length=(filT (ps.map Prod.fst) t.1.id).length+1 := by have := congrArg List.length m4'; simpa using this
  have hid4:∀ y∈ps4, Good y.1 := fun y hy => by
    have:y.1∈filT (ps.map Prod.fst) t.1.id++[t.1] := by rw [←m4']; exact List.mem_map_of_mem hy
    rcases List.mem_append.1 this with hz | hz
    · exact F.g _ (List.mem_filter.1 hz).1
    · rw [List.mem_singleton.1 hz]; exact ht
  rw [List.length_append, List.length_cons, List.length_nil] at b8
  -- sorted
  obtain ⟨nn, g1', g2', LO, segs⟩ := T4
  obtain ⟨p, ex, rfl, p1, p2, p3, p4⟩:∃ p ex, v4 = .sl p 0 ps4.length ps4.length ex 6∧A8 p h4=some (.c (.l (flatP ps4)) false none)∧(flatP ps4).length=ps4.length*6∧n3.toN≤p.toN∧p.toN<nn := by
    rcases LO with ⟨_, _, c⟩ | LO
    · omega
    · exact LO
  obtain ⟨h5, n5, L, e5, q1, q2, p5, b9, b10, f5, r5⟩ := sort_ok (m := m+6) (ex := ex) (h := h4) (n := n4) (ps := ps4) (by omega) rfl (fun y hy => (hid4 y hy).i) p1 (by omega) (by omega)
  have l5:L.length=ps4.length := q1.length_eq
  have mL:(L.map Prod.fst).Perm (filT (ps.map Prod.fst) t.1.id++[t.1]) := by rw [←m4']; exact q1.map _
  have sL:((L.map Prod.fst).map Ten.id).Pairwise (· ≤ ·) := by rw [List.map_map]; exact q2
  have oL := srt_lt mL sL F.o
  have k5:∀ q:K4, q.toN<n.toN->A8 q h5=A8 q h := fun q hq => (f5 q (by omega) (K4.ne_of_lt (by omega))).trans ((f4 q (by omega)).trans (k3 q hq))
  have fr5:Al h5 n5 := r5 (r4 (r3 (r1 a3)))
  have lfl:(flatP L).length=ps4.length*6 := by rw [flatP_len, l5]
  have T5:∀ (h':Heap) (n':K4) (av:List K4), n5.toN≤n'.toN->(∀ q:K4, n3.toN≤q.toN->q.toN<n5.toN->A8 q h'=A8 q h5 ∧ ∀ r∈av, q≠r)->TL h' n' av (.sl p 0 ps4.length ps4.length ex 6) L := fun h' n' av hn' e => by
    refine ⟨.inr ⟨p, 0, ps4.length, ex, flatP L, false, none, by rw [l5], ((e p p3 (by omega)).1).trans p5, by rw [lfl, l5]; omega, by rw [List.drop_zero, l5, ←lfl, List.take_length], by omega, (e p p3 (by omega)).2⟩, fun y hy => ?_⟩
    have hy4 := q1.mem_iff.1 hy
    rcases segs y hy4 with hc | ⟨p', ex', ww1, ww2, ww3, ww4, ww5⟩
    · exact .inl hc
    · have np:p'≠p := (K4.ne_of_lt (by omega)).symm
      exact .inr ⟨p', 0, y.1.segs.length, ex', _, false, none, ww1, ((e p' (by omega) (by omega)).1).trans ((f5 p' (by omega) np).trans ww2), by omega, by rw [List.drop_zero, ←ww3, List.take_length], by omega, (e p' (by omega) (by omega)).2⟩
  have hln:∀ κ:V->R, AJ (.sl p 0 ps4.length ps4.length ex 6) κ=κ (.int .i64 ps4.length) := fun κ => CD (by omega) κ
  have M5:MS h5 n5 f mp [f, d, x, dm, pc, lm, sp, mp] X (ps.map Prod.fst) C := M0.more (by omega) k5 fr5
  have fav:∀ q:K4, q.toN<n.toN->(∀ r∈[f, d, x, dm, pc, lm, sp, mp], q≠r)->A8 q h5=A8 q h ∧ ∀ r∈[f, d, x, dm, pc, lm, sp, mp], q≠r := fun q hq hr => ⟨k5 q hq, hr⟩
  rw [show m+9+3=m+12 from rfl] at e1 e2
  rw [show m+10+2=m+12 from rfl] at e4
  rw [show m+6+6=m+12 from rfl] at e5
  generalize hR:Ak tab (m+13) ⟨.d0, .d2, .d9⟩ [.ptr mp 0, .agg (tc t)] h n=R0
  rw [call2_at, show B0 ⟨.d0, .d2, .d9⟩ tab=some x41 from rfl, x41] at hR
  simp (config := {maxSteps := 3000000}) (disch := omega) only [qa,g0,g1,g2,g3,g4,g5,g6,g7,g8,g9,Bb,B9,B7,Bd,Bq,Bi,Bt,Bk,Bl,Bp,w0,w1,w2,w3,w4,w5,w6,w7,w8,w9,Bc,Ba,B5,Bo,Be,Bm,Br,Bs,Bj,Bf,Mk,Nat.reduceAdd,Nat.reduceSub,Nat.reduceMul,Nat.reduceMod,Nat.reduceDiv,Q0,U,en1,hA,e1,e2,k2,Et,q_part6,rngO_6,e3,e4,e5,hln] at hR
  by_cases hlen:6<ps4.length
  · simp (config := {maxSteps := 3000000}) (disch := omega) only [qa,g0,g1,g2,g3,g4,g5,g6,g7,g8,g9,Bb,B9,B7,Bd,Bq,Bi,Bt,Bk,Bl,Bp,w0,w1,w2,w3,w4,w5,w6,w7,w8,w9,Bc,Ba,B5,Bo,Be,Bm,Br,Bs,Bj,Bf,Mk,Nat.reduceAdd,Nat.reduceSub,Nat.reduceMul,Nat.reduceMod,Nat.reduceDiv,Q0,U,decide_eq_true hlen] at hR
    subst hR
    exact ⟨h5, n5, _, 2, rfl, by omega, by omega, fav, .inl ⟨by omega, rfl, M5⟩⟩
  · have hk4:L.length≤6 := by omega
    have gL:∀ y∈L, Good y.1 := fun y hy => hid4 y (q1.mem_iff.1 hy)
    have oL':(L.map fun x => x.1.id).Pairwise (· < ·) := by
      have:L.map (fun x => x.1.id)=(L.map Prod.fst).map Ten.id := by rw [List.map_map]; rfl
      rw [this]; exact oL
    have hsL:∀ y∈L, y.1.segs.length≤s := fun y hy => by
      have:y.1∈filT (ps.map Prod.fst) t.1.id++[t.1] := mL.mem_iff.1 (List.mem_map_of_mem hy)
      rcases List.mem_append.1 this with hz | hz
      · exact F.s _ (List.mem_filter.1 hz).1
      · rw [List.mem_singleton.1 hz]; exact hts
    have TE := T5 h5 n5 [] (Nat.le_refl _) fun q _ _ => ⟨rfl, fun q hq => by cases hq⟩
    simp (config := {maxSteps := 3000000}) (disch := omega) only [qa,g0,g1,g2,g3,g4,g5,g6,g7,g8,g9,Bb,B9,B7,Bd,Bq,Bi,Bt,Bk,Bl,Bp,w0,w1,w2,w3,w4,w5,w6,w7,w8,w9,Bc,Ba,B5,Bo,Be,Bm,Br,Bs,Bj,Bf,Mk,Nat.reduceAdd,Nat.reduceSub,Nat.reduceMul,Nat.reduceMod,Nat.reduceDiv,Q0,U,decide_eq_false hlen] at hR
    cases hok:okb t.1 with
    | false =>
      have bad:(L.all fun x => okb x.1)=false := by
        rw [Bool.eq_false_iff]
        intro hall
        have:t.1∈L.map Prod.fst := mL.mem_iff.2 (by simp)
        obtain ⟨y, hy, hy2⟩ := List.mem_map.1 this
        have := List.all_eq_true.1 hall y hy
        rw [hy2, hok] at this; cases this
      obtain ⟨h6, n6, e6, b11, b12, f6, r6⟩ := enc_bad (m := m+5) TE hk4 gL oL' bad (by omega)
      rw [show m+5+7=m+12 from rfl] at e6
      simp (config := {maxSteps := 3000000}) (disch := omega) only [qa,g0,g1,g2,g3,g4,g5,g6,g7,g8,g9,Bb,B9,B7,Bd,Bq,Bi,Bt,Bk,Bl,Bp,w0,w1,w2,w3,w4,w5,w6,w7,w8,w9,Bc,Ba,B5,Bo,Be,Bm,Br,Bs,Bj,Bf,Mk,Nat.reduceAdd,Nat.reduceSub,Nat.reduceMul,Nat.reduceMod,Nat.reduceDiv,Q0,U,e6] at hR
      subst hR
      exact ⟨h6, n6, _, 5, rfl, by omega, by omega, fun q hq hr => ⟨(f6 q (by omega)).trans (k5 q hq), hr⟩, .inr (.inl ⟨by omega, rfl, rfl, M5.more b11 f6 (r6 fr5)⟩)⟩
    | true =>
      have good:(L.all fun x => okb x.1)=true := List.all_eq_true.2 fun y hy => by
        have:y.1∈filT (ps.map Prod.fst) t.1.id++[t.1] := mL.mem_iff.1 (List.mem_map_of_mem hy)
        rcases List.mem_append.1 this with hz | hz
        · exact F.k _ (List.mem_filter.1 hz).1
        · rw [List.mem_singleton.1 hz]; exact hok
      have ml6:L.length*(90+s*17)≤6*(90+s*17) := Nat.mul_le_mul_right _ hk4
      obtain ⟨h6, n6, pb, exb, bl, pr, e6, ww1, ww2, ww3, ww4, b11, b12, f6, r6⟩ := enc_ok (m := m+5) (s := s) TE hk4 gL oL' good hsL hs (by omega)
      rw [show m+5+7=m+12 from rfl] at e6
      have k6:∀ q:K4, q.toN<n.toN->A8 q h6=A8 q h := fun q hq => (f6 q (by omega)).trans (k5 q hq)
      have M6 := M5.more b11 f6 (r6 fr5)
      have l := S.lt
      obtain ⟨es, ds, dk, hmm, ik⟩ := S.hm
      have S6:SS h6 n6 f d x dm pc lm sp 100000 rd calls 18446744073709551615 b k bs ys cv sv tv cur turn nxt text := ⟨(k6 f (l f (by simp))).trans S.hf, (k6 d (l d (by simp))).trans S.hd, S.hb, (k6 lm (l lm (by simp))).trans S.hl, (k6 x (l x (by simp))).trans S.hx, ⟨es, ds, dk, (k6 dm (l dm (by simp))).trans hmm, ik⟩, S.own.frame (k6 pc (l pc (by simp))), S.oy.frame (by omega) fun p hp hq => ⟨k6 p hp, hq⟩, (k6 sp (l sp (by simp))).trans S.hs, S.ot.frame (by omega) fun p hp hq => ⟨k6 p hp, hq⟩, r6 fr5, S.nd, fun q hq => by have := l q hq; omega⟩
      obtain ⟨h7, n7, dm', sv', tv', e7, b13, b14, f7, S7, m7, ld7⟩ := save_ok (m := m) (v := .sl pb 0 bl.length bl.length exb 1) (l := bl) S6 (.inl ⟨rfl, rfl⟩) (.inl ⟨rfl, rfl⟩) (.inr (.inr ⟨pb, 0, bl.length, exb, bl, false, pr, rfl, ww1, by omega, by rw [List.drop_zero, List.take_length]⟩))
        (fun q hq => by obtain ⟨_, _, _, e⟩ := hq; obtain ⟨rfl, _⟩ := V.sl.inj e; exact ⟨ww3, fun r hr => (K4.ne_of_lt (by have := l r hr; omega)).symm⟩) (by omega) (by omega) c2 c1 (by omega) (by omega) (by omega) (by omega)
      have hm6:A8 mp h6=some (.c (.l [.ptr sp 0, lv]) false none) := (k6 mp lmp).trans hm
      have hm7:A8 mp h7=some (.c (.l [.ptr sp 0, lv]) false none) := (f7 mp (by omega) nmp).trans hm6
      have hnb:∀ κ:V->R, AJ (.sl pb 0 bl.length bl.length exb 1) κ=κ (.int .i64 bl.length) := fun κ => CD (by omega) κ
      simp (config := {maxSteps := 3000000}) (disch := omega) only [qa,g0,g1,g2,g3,g4,g5,g6,g7,g8,g9,Bb,B9,B7,Bd,Bq,Bi,Bt,Bk,Bl,Bp,w0,w1,w2,w3,w4,w5,w6,w7,w8,w9,Bc,Ba,B5,Bo,Be,Bm,Br,Bs,Bj,Bf,Mk,Nat.reduceAdd,Nat.reduceSub,Nat.reduceMul,Nat.reduceMod,Nat.reduceDiv,Q0,U,e6,hnb,hm6,e7,hm7] at hR
      subst hR
      obtain ⟨bs7, Zr, S7⟩:∃ bs7, bs7.length=8192∧SS h7 n7 f d x dm' pc lm sp 100000 rd (calls+2) 18446744073709551615 b k bs7 bs7 cv sv' tv' (1 - cur) (nxt+1) (nxt+1) bl := ⟨_, by
        have hsl:(slotL (nxt+1) bl).length=16+bl.length := slotL_len _ _
        rw [Ki (by rw [hsl, c1]; rcases (by omega:cur=0∨cur=1) with rfl | rfl <;> omega), c1], S7⟩
      have hgt:∀ q:K4, q.toN<n6.toN->q≠dm' := fun q hq => K4.ne_of_lt (by omega)
      have l7 := S7.lt
      have nd7:∀ q:K4, n3.toN≤q.toN->q.toN<n5.toN->(∀ r∈[f, d, x, dm, pc, lm, sp], q≠r)∧q≠mp∧q≠dm' := fun q h1 h2 => ⟨fun r hr => (K4.ne_of_lt (by have := l r hr; omega)).symm, (K4.ne_of_lt (by omega)).symm, hgt q (by omega)⟩
      refine ⟨_, n7, [f, d, x, dm', pc, lm, sp, mp], 0, rfl, by omega, by omega, fun q hq hr => ?_, .inr (.inr ⟨by omega, rfl, rfl, L.map Prod.fst, mL, ⟨fun y hy => ?_, fun y hy => ?_, fun y hy => ?_, oL, by rw [List.length_map]; exact hk4⟩, d, x, dm', pc, lm, sp, rd, calls+2, b, k, bs7, bs7, cv, sv', tv', 1 - cur, nxt+1, nxt+1, bl, .sl p 0 ps4.length ps4.length ex 6, L, rfl, ?_, A7 _ _ _, by omega, fun q hq => ?_, rfl, ?_, Zr, by omega, by omega, by omega⟩)⟩
      · have e1:∀ r∈[f, d, x, dm, pc, lm, sp], q≠r := fun r hr' => hr r (by simp only [List.mem_cons,List.not_mem_nil,or_false] at hr' ⊢; rcases hr' with h | h | h | h | h | h | h <;> simp [h])
        have e2:q≠mp := hr mp (by simp)
        refine ⟨(A6 _ _ e2.symm).trans ((f7 q (by omega) e1).trans (k6 q hq)), fun r hr' => ?_⟩
        simp only [List.mem_cons,List.not_mem_nil,or_false] at hr'
        rcases hr' with h | h | h | h | h | h | h | h <;> rw [h]
        · exact e1 f (by simp)
        · exact e1 d (by simp)
        · exact e1 x (by simp)
        · exact hgt q (by omega)
        · exact e1 pc (by simp)
        · exact e1 lm (by simp)
        · exact e1 sp (by simp)
        · exact e2
      · obtain ⟨z, hz, rfl⟩ := List.mem_map.1 hy; exact gL z hz
      · obtain ⟨z, hz, rfl⟩ := List.mem_map.1 hy; exact List.all_eq_true.1 good z hz
      · obtain ⟨z, hz, rfl⟩ := List.mem_map.1 hy; exact hsL z hz
      · have ne:∀ q∈[f, d, x, dm', pc, lm, sp], q≠mp := fun q hq => by
          simp only [List.mem_cons,List.not_mem_nil,or_false] at hq
          rcases hq with h | h | h | h | h | h | h <;> rw [h]
          · exact (nmp f (by simp)).symm
          · exact (nmp d (by simp)).symm
          · exact (nmp x (by simp)).symm
          · exact (hgt mp (by omega)).symm
          · exact (nmp pc (by simp)).symm
          · exact (nmp lm (by simp)).symm
          · exact (nmp sp (by simp)).symm
        have kk:∀ q∈[f, d, x, dm', pc, lm, sp], A8 q (Ac mp h7 (some (.c (.l [.ptr sp 0, .sl p 0 ps4.length ps4.length ex 6]) false none)))=A8 q h7 := fun q hq => A6 _ _ (ne q hq).symm
        have oth:∀ {v:V} {l:List UInt8}, At h7 n7 [f, d, x, dm', pc, lm, sp] v l->At (Ac mp h7 (some (.c (.l [.ptr sp 0, .sl p 0 ps4.length ps4.length ex 6]) false none))) n7 [f, d, x, dm', pc, lm, sp] v l := fun {v l} H => by
          rcases H with H | ⟨p', ex', z1, z2, z3, z4⟩
          · exact .inl H
          · refine .inr ⟨p', ex', z1, (A6 _ _ fun e => ?_).trans z2, z3, z4⟩
            rw [←e, hm7] at z2; cases z2
        obtain ⟨es7, ds7, dk7, hm7', ik7⟩ := S7.hm
        exact ⟨(kk f (by simp)).trans S7.hf, (kk d (by simp)).trans S7.hd, S7.hb, (kk lm (by simp)).trans S7.hl, (kk x (by simp)).trans S7.hx, ⟨es7, ds7, dk7, (kk dm' (by simp)).trans hm7', ik7⟩, S7.own.frame (kk pc (by simp)), oth S7.oy, (kk sp (by simp)).trans S7.hs, oth S7.ot, fun q hq => (Aq (by omega) _ _).trans (S7.fr q hq), S7.nd, S7.lt⟩
      · simp only [List.mem_cons,List.not_mem_nil,or_false] at hq
        rcases hq with h | h | h | h | h | h | h <;> rw [h]
        · exact nmp f (by simp)
        · exact nmp d (by simp)
        · exact nmp x (by simp)
        · exact hgt mp (by omega)
        · exact nmp pc (by simp)
        · exact nmp lm (by simp)
        · exact nmp sp (by simp)
      · refine T5 _ n7 _ (by omega) fun q hq1 hq2 => ?_
        obtain ⟨z1, z2, z3⟩ := nd7 q hq1 hq2
        refine ⟨(A6 _ _ z2.symm).trans ((f7 q (by omega) z1).trans (f6 q hq2)), fun r hr' => ?_⟩
        rcases List.mem_append.1 hr' with hr' | hr'
        rotate_left
        · exact (K4.ne_of_lt (by have := lX r hr'; omega)).symm
        simp only [List.mem_cons,List.not_mem_nil,or_false] at hr'
        rcases hr' with h | h | h | h | h | h | h | h <;> rw [h]
        · exact z1 f (by simp)
        · exact z1 d (by simp)
        · exact z1 x (by simp)
        · exact z3
        · exact z1 pc (by simp)
        · exact z1 lm (by simp)
        · exact z1 sp (by simp)
        · exact z2
theorem mcreate_ok {m:Nat} {f d:K4} {h:Heap} {n:K4} {rd:Nat} {l0:V} (hf:A8 f h=some (.c (.l (fsC 100000 rd 0 18446744073709551615 (.map d) l0 (.nil .sl))) false none)) (hd:A8 d h=some (.m [] [] 0)) (hfr:Al h n) (hfn:f.toN<n.toN) (hdf:d.toN<f.toN) (hn:n.toN<39000) :
    ∃ h' n' mp av, Ak tab (m+13) ⟨.d0, .d2, .d8⟩ [.ptr f 0] h n = .rv (.tup [.ptr mp 0, .int .i64 0]) h' n'∧n.toN≤n'.toN∧n'.toN≤n.toN+400∧(∀ X, MS h' n' f mp av X [] 5) := by
  obtain ⟨h1, n1, p, ex, l, pr, e1, p1, p2, p3, hl, b1, b2, f1, r1⟩ := enc_nil (m := m+5) (h := h) (n := n) (by omega)
  obtain ⟨h2, n2, x, dm, pc, lm, sp, cv, sv, tv, e2, b3, b4, S, m2⟩ := screate_ok (m := m) (n := n1) (h := h1) (v := .sl p 0 l.length l.length ex 1) (l := l) ((f1 f hfn).trans hf) ((f1 d (by omega)).trans hd) (r1 hfr) (by omega) hdf
    (.inr (.inr ⟨p, 0, l.length, ex, l, false, pr, rfl, p1, by omega, by rw [List.drop_zero, List.take_length]⟩)) (fun q hq => by obtain ⟨_, _, _, e⟩ := hq; obtain ⟨rfl, _⟩ := V.sl.inj e; exact ⟨p3, (K4.ne_of_lt (by omega)).symm, (K4.ne_of_lt (by omega)).symm⟩) (by omega) (by omega) (by omega) (by omega) (by omega)
  have u2 := K4.up_toN (p := n2) (by omega)
  rw [show m+5+7=m+12 from rfl] at e1
  have lt := S.lt
  have k2:∀ q:K4, q.toN<n2.toN->A8 q (Ac n2 h2 (some (.c (.l [.ptr sp 0, .nil .sl]) false none)))=A8 q h2 := fun q hq => Aj hq _ _
  refine ⟨Ac n2 h2 (some (.c (.l [.ptr sp 0, .nil .sl]) false none)), n2.up, n2, [f, d, x, dm, pc, lm, sp, n2], ?_, by omega, by omega, fun X => ⟨d, x, dm, pc, lm, sp, rd, 5, 1, 2, imgL l, imgL l, cv, sv, tv, 0, 1, 1, l, .nil .sl, [], rfl, ?_, A7 _ _ _, by omega, fun q hq => (K4.ne_of_lt (lt q hq)).symm, rfl, ⟨.inl ⟨rfl, rfl, rfl⟩, fun y hy => by cases hy⟩, imgL_len (by omega), by omega, by omega, by omega⟩⟩
  · rw [call2_at, show B0 ⟨.d0, .d2, .d8⟩ tab=some x40 from rfl, x40]
    simp (config := {maxSteps := 3000000}) (disch := omega) only [qa,g0,g1,g2,g3,g4,g5,g6,g7,g8,g9,Bb,B9,B7,Bd,Bq,Bi,Bt,Bk,Bl,Bp,w0,w1,w2,w3,w4,w5,w6,w7,w8,w9,Bc,Ba,B5,Bo,Be,Bm,Br,Bs,Bj,Bf,Mk,Nat.reduceAdd,Nat.reduceSub,Nat.reduceMul,Nat.reduceMod,Nat.reduceDiv,Q0,U,en3,e1,e2]
  · exact ⟨(k2 f (lt f (by simp))).trans S.hf, (k2 d (lt d (by simp))).trans S.hd, S.hb, (k2 lm (lt lm (by simp))).trans S.hl, (k2 x (lt x (by simp))).trans S.hx, ⟨[], [], 0, (k2 dm (lt dm (by simp))).trans m2, IK.nil⟩, S.own.frame (k2 pc (lt pc (by simp))), S.oy.frame (by omega) fun q hq hr => ⟨k2 q hq, hr⟩, (k2 sp (lt sp (by simp))).trans S.hs, S.ot.frame (by omega) fun q hq hr => ⟨k2 q hq, hr⟩, fun q hq => (Aq (by omega) _ _).trans (S.fr q (by omega)), S.nd, fun q hq => by have := lt q hq; omega⟩
theorem q_celN (p:K4) (o:Nat) (h:Heap) (κ:V->R):WU 6 (.ptr p o) h κ=KC (A8 p h) 6 o κ := UT 6 p o h κ
def oneT (id:Nat):Ten := ⟨id, 1, 5000, 1, 3, [1, 2]⟩
theorem one_ok {m id:Nat} {h:Heap} {n:K4} (hn:n.toN<60000) :
    ∃ h', Ak tab (m+1) ⟨.d0, .d2, .d10⟩ [.int .u32 id] h n = .rv (.agg (tc (oneT id, .sl n.up 0 2 2 true 1))) h' n.up.up∧A8 n.up h'=some (.c (.l [.int .i64 1, .int .i64 2]) false none)∧n.up.toN=n.toN+1∧n.up.up.toN=n.toN+2∧(∀ q:K4, q.toN<n.toN->A8 q h'=A8 q h)∧(Al h n->Al h' n.up.up) := by
  have u1 := K4.up_toN (p := n) (by omega)
  have u2 := K4.up_toN (p := n.up) (by omega)
  have hst:∀ (Z X:Co) (a0 a1 a2 a3 a4 a5 b0 b1 b2 b3 b4 b5:V) (κ:Heap->R), Z=some (.c (.l [a0, a1, a2, a3, a4, a5]) false none)->Di 6 (.ptr n 0) (.agg [b0, b1, b2, b3, b4, b5]) (Ac n.up (Ac n h Z) X) κ=κ (Ac n (Ac n.up (Ac n h Z) X) (some (.c (.l [b0, b1, b2, b3, b4, b5]) false none))) := fun Z X a0 a1 a2 a3 a4 a5 b0 b1 b2 b3 b4 b5 κ hz => by
    rw [SN (m := 6) (b := [b0, b1, b2, b3, b4, b5]) (a := [a0, a1, a2, a3, a4, a5]) (pr := none) (by rw [Aj (by omega), A7, hz]) rfl (by simp)]; rfl
  have hst2 := fun (X:Co) (b0 b1 b2 b3 b4 b5:V) (κ:Heap->R) => hst _ X (iW 0) (iL 0) (iI 0) (iL 0) (iI 0) (.nil .sl) b0 b1 b2 b3 b4 b5 κ rfl
  rw [Zg] at hst2
  refine ⟨Ac n (Ac n.up (Ac n h (some (.c (.l [iW 0, iL 0, .int .i64 0, iL 0, .int .i64 0, .nil .sl]) false none))) (some (.c (.l [.int .i64 1, .int .i64 2]) false none))) (some (.c (.l (tc (oneT id, .sl n.up 0 2 2 true 1))) false none)), ?_, ?_, u1, by omega, fun q hq => ?_, fun hf q hq => ?_⟩
  · rw [call2_at, show B0 ⟨.d0, .d2, .d10⟩ tab=some x42 from rfl, x42]
    simp (config := {maxSteps := 3000000}) (disch := omega) only [qa,g0,g1,g2,g3,g4,g5,g6,g7,g8,g9,Bb,B9,B7,Bd,Bq,Bi,Bt,Bk,Bl,Bp,w0,w1,w2,w3,w4,w5,w6,w7,w8,w9,Bc,Ba,B5,Bo,Be,Bm,Br,Bs,Bj,Bf,Mk,Nat.reduceAdd,Nat.reduceSub,Nat.reduceMul,Nat.reduceMod,Nat.reduceDiv,Q0,U,en3,hst2,q_celN,Et]
    rfl
  · rw [Aq (by omega), A7]
  · rw [Aj (by omega), Aj (by omega), Aj (by omega)]
  · rw [Aq (by omega), Aq (by omega), Aq (by omega)]; exact hf q (by omega)
noncomputable def gtB (c:Ei):S->Heap->K4->R := fun t h n=>g6 t fun z5=>g5 t fun z6=>AO z5 z6 fun z7=>AZ z7 (Ah 1 (g4 t fun z8=>AG 6 z8 z5 fun z9=>C0 6 z9 h fun za=>DE (.l [(iW 0),(iL 0),(iI 0),(iL 0),(iI 0),(.nil .sl)]) h n fun zb h n=>Di 6 zb za h fun h=>Am 0 zb fun zc=>Av zc h fun zd=>g1 t fun ze=>CR zd ze fun zf=>AZ zf (C0 6 zb h fun zg=>g2 t fun zh=>Di 6 zh zg h fun h=>w3 t (.bool true) fun t=>rT t h n)<|nR t h n) fun t h n=>g6 t fun zi=>AM zi (iI 1) fun zj=>w6 t zj fun t=>nR t h n)<|.ok (.exit 0) t h n
noncomputable def x43L:Ent := .code en1 (fun c t h n=>DE (.l [(iW 0),(iL 0),(iI 0),(iL 0),(iI 0),(.nil .sl)]) h n fun z1 h n=>g0 t fun z2=>Ag (c ⟨.d0,.d2,.d12⟩ [z2] h n) fun z3 h n=>AJ z3 fun z4=>Ah 0 (w2 t z1 fun t=>w3 t (.bool false) fun t=>w4 t z3 fun t=>w5 t z4 fun t=>w6 t (iI 0) fun t=>B8 (gtB c) t h n) fun t h n=>g2 t fun zk=>Di 6 zk (.agg [(iW 0),(iL 0),(iI 0),(iL 0),(iI 0),(.nil .sl)]) h fun h=>w3 t (.bool false) fun t=>rT t h n) (fun t h n=>g2 t fun a0=>WU 6 a0 h fun b0=>g3 t fun a1=>.rv (.tup [b0,a1]) h n)
theorem x43_L:x43=x43L := rfl
theorem gt_loop {m id:Nat} {z1:K4} {x0 v:V} {av:List K4} {ps:List (Ten×V)} (hk:ps.length≤100) :
    ∀ (j i:Nat) (h:Heap) (n:K4) (x7:V), i+j=ps.length->TL h n av v ps->A8 z1 h=some (.c (.l [.int .u32 0, .int .u64 0, .int .i64 0, .int .u64 0, .int .i64 0, .nil .sl]) false none)->z1.toN<n.toN->(∃ x∈ps.drop i, x.1.id=id)->n.toN+j<60000 →
    ∃ h' n' r S', ∃ hr:r<ps.length, ps[r].1.id=id∧n.toN≤n'.toN∧n'.toN≤n.toN+j∧A8 z1 h'=some (.c (.l (tc ps[r])) false none)∧(∀ q:K4, q.toN<n.toN->q≠z1->A8 q h'=A8 q h)∧(Al h n->Al h' n') ∧
      (∀ K, Cr (gtB (Ak tab m)) (K+j+1) (.mk (.mk x0 (.int .u32 id) (.ptr z1 0) (.bool false)) (.mk v (.int .i64 ps.length) (.int .i64 i) x7) Q0 Q0 Q0 Q0 Q0 Q0) h n = .ok .ret (.mk (.mk x0 (.int .u32 id) (.ptr z1 0) (.bool true)) S' Q0 Q0 Q0 Q0 Q0 Q0) h' n') := by
  intro j
  induction j with
  | zero =>
    intro i h n x7 hi H hz hzn hex hn
    obtain rfl:i=ps.length := by omega
    obtain ⟨x, hx, _⟩ := hex
    rw [List.drop_length] at hx; cases hx
  | succ j ih =>
    intro i h n x7 hi H hz hzn hex hn
    have hil:i<ps.length := by omega
    have u1 := K4.up_toN (p := n) (by omega)
    have hd:ps.drop i=ps[i]::ps.drop (i+1) := List.drop_eq_getElem_cons hil
    obtain ⟨p, o, e1, e2, _⟩ := H.ix hil (by omega)
    generalize hA:Ac n h (some (.c (.l (tc ps[i])) false none))=A
    have a1:A8 n A=some (.c (.l (tc ps[i])) false none) := by rw [←hA, A7]
    have a2:∀ q:K4, q.toN<n.toN->A8 q A=A8 q h := fun q hq => by rw [←hA, Aj hq]
    have a3:Al h n->Al A n.up := fun hf q hq => by rw [←hA, Aq (by omega)]; exact hf q (by omega)
    by_cases hc:ps[i].1.id=id
    · have hst:∀ κ:Heap->R, Di 6 (.ptr z1 0) (.agg (tc ps[i])) A κ=κ (Ac z1 A (some (.c (.l (tc ps[i])) false none))) := fun κ => by
        rw [SN (m := 6) (b := tc ps[i]) (a := [.int .u32 0, .int .u64 0, .int .i64 0, .int .u64 0, .int .i64 0, .nil .sl]) (pr := none) ((a2 z1 hzn).trans hz) rfl (by simp)]; rfl
      refine ⟨Ac z1 A (some (.c (.l (tc ps[i])) false none)), n.up, i, .mk v (.int .i64 ps.length) (.int .i64 i) x7, hil, hc, by omega, by omega, A7 _ _ _, fun q hq hqz => (A6 _ _ (Ne.symm hqz)).trans (a2 q hq), fun hf q hq => (Aq (by omega) _ _).trans (a3 hf q hq), fun K => ?_⟩
      rw [BN]
      unfold gtB
      simp (config := {maxSteps := 3000000}) (disch := omega) only [qa,g0,g1,g2,g3,g4,g5,g6,g7,g8,g9,Bb,B9,B7,Bd,Bq,Bi,Bt,Bk,Bl,Bp,w0,w1,w2,w3,w4,w5,w6,w7,w8,w9,Bc,Ba,B5,Bo,Be,Bm,Br,Bs,Bj,Bf,Mk,Nat.reduceAdd,Nat.reduceSub,Nat.reduceMul,Nat.reduceMod,Nat.reduceDiv,Q0,U,e1,e2,H5,hA,a1,Et,hst,decide_eq_true hc]
    · obtain ⟨h2, n2, r, S', hr, k1, b1, b2, z2, f2, r2, e3⟩ := ih (i+1) A n.up x7 (by omega) (H.more (by omega) a2) ((a2 z1 hzn).trans hz) (by omega) (by
        obtain ⟨x, hx, hx2⟩ := hex
        rw [hd] at hx
        rcases List.mem_cons.1 hx with rfl | hx
        · exact absurd hx2 hc
        · exact ⟨x, hx, hx2⟩) (by omega)
      refine ⟨h2, n2, r, S', hr, k1, by omega, by omega, z2, fun q hq hqz => (f2 q (by omega) hqz).trans (a2 q hq), fun hf => r2 (a3 hf), fun K => ?_⟩
      rw [BN, show K+(j+1)=K+j+1 by omega, ←e3 K]
      generalize Cr (gtB (Ak tab m)) (K+j+1)=G'
      unfold gtB
      simp (config := {maxSteps := 3000000}) (disch := omega) only [qa,g0,g1,g2,g3,g4,g5,g6,g7,g8,g9,Bb,B9,B7,Bd,Bq,Bi,Bt,Bk,Bl,Bp,w0,w1,w2,w3,w4,w5,w6,w7,w8,w9,Bc,Ba,B5,Bo,Be,Bm,Br,Bs,Bj,Bf,Mk,Nat.reduceAdd,Nat.reduceSub,Nat.reduceMul,Nat.reduceMod,Nat.reduceDiv,Q0,U,e1,e2,H5,hA,a1,Et,decide_eq_false hc]
theorem get_ok {m id:Nat} {h:Heap} {n mp sp:K4} {av:List K4} {lv:V} {ps:List (Ten×V)} (hm:A8 mp h=some (.c (.l [.ptr sp 0, lv]) false none)) (hmn:mp.toN<n.toN) (H:TL h n av lv ps) (hk:ps.length≤6) (hs:∀ x∈ps, x.1.segs.length≤100) (hex:∃ x∈ps, x.1.id=id) (hn:n.toN<58000) :
    ∃ h' n' x, Ak tab (m+4) ⟨.d0, .d2, .d11⟩ [.ptr mp 0, .int .u32 id] h n = .rv (.tup [.agg (tc x), .bool true]) h' n'∧x.1∈ps.map Prod.fst∧x.1.id=id∧OwnN n.toN n'.toN h' 1 x.2 (x.1.segs.map (V.int .i64)) x.1.segs.length∧n.toN≤n'.toN∧n'.toN≤n.toN+30∧(∀ q:K4, q.toN<n.toN->A8 q h'=A8 q h)∧(Al h n->Al h' n') := by
  have u1 := K4.up_toN (p := n) (by omega)
  generalize hA:Ac n h (some (.c (.l [.int .u32 0, .int .u64 0, .int .i64 0, .int .u64 0, .int .i64 0, .nil .sl]) false none))=A
  have a1:A8 n A=some (.c (.l [.int .u32 0, .int .u64 0, .int .i64 0, .int .u64 0, .int .i64 0, .nil .sl]) false none) := by rw [←hA, A7]
  have a2:∀ q:K4, q.toN<n.toN->A8 q A=A8 q h := fun q hq => by rw [←hA, Aj hq]
  have a3:Al h n->Al A n.up := fun hf q hq => by rw [←hA, Aq (by omega)]; exact hf q (by omega)
  obtain ⟨h1, n1, v1, ps1, e1, b1, b2, T1, m1, f1, r1⟩ := all_ok (m := m) (n := n.up) ((a2 mp hmn).trans hm) (H.more (by omega) a2) (by omega) hs (by omega)
  have l1:ps1.length=ps.length := by have := congrArg List.length m1; simpa using this
  have TT := T1.tl [] (fun q hq => by cases hq)
  have hln := TT.1.len (by omega)
  obtain ⟨nn, g1', g2', LO, segs⟩ := T1
  have hex1:∃ x∈ps1.drop 0, x.1.id=id := by
    obtain ⟨x, hx, hx2⟩ := hex
    have:x.1∈ps1.map Prod.fst := by rw [m1]; exact List.mem_map_of_mem hx
    obtain ⟨y, hy, hy2⟩ := List.mem_map.1 this
    exact ⟨y, by rw [List.drop_zero]; exact hy, by rw [hy2]; exact hx2⟩
  obtain ⟨h2, n2, r, S', hr, k1, b3, b4, z2, f2, r2, e2⟩ := gt_loop (m := m+3) (id := id) (z1 := n) (x0 := .ptr mp 0) (v := v1) (av := []) (by omega) ps1.length 0 h1 n1 Ar (by omega) TT ((f1 n (by omega)).trans a1) (by omega) hex1 (by omega)
  have eK := e2 (999999999 - ps1.length)
  rw [show 999999999 - ps1.length+ps1.length+1=999999999+1 by omega, BN] at eK
  simp only [Q0] at eK
  refine ⟨h2, n2, ps1[r], ?_, by rw [←m1]; exact List.mem_map_of_mem (List.getElem_mem hr), k1, (segs _ (List.getElem_mem hr)).frame (by omega) b3 fun q h3 h4 => f2 q (by omega) (K4.ne_of_lt (by omega)).symm, by omega, by omega, fun q hq => (f2 q (by omega) (K4.ne_of_lt hq)).trans ((f1 q (by omega)).trans (a2 q hq)), fun hf => r2 (r1 (a3 hf))⟩
  rw [call2_at, show B0 ⟨.d0, .d2, .d11⟩ tab=some x43 from rfl, x43_L, x43L]
  rw [show iW 0 = .int .u32 0 from rfl, show iL 0 = .int .u64 0 from rfl]
  simp (config := {maxSteps := 3000000}) (disch := omega) only [qa,g0,g1,g2,g3,g4,g5,g6,g7,g8,g9,Bb,B9,B7,Bd,Bq,Bi,Bt,Bk,Bl,Bp,w0,w1,w2,w3,w4,w5,w6,w7,w8,w9,Bc,Ba,B5,Bo,Be,Bm,Br,Bs,Bj,Bf,Mk,Nat.reduceAdd,Nat.reduceSub,Nat.reduceMul,Nat.reduceMod,Nat.reduceDiv,Q0,U,en1,hA,e1,hln,Cg,eK,q_celN,z2,Et]
/-- The amounts: none, or told. -/
def FV (fv:V) (fs:List Nat):Prop := (fv = .nil .sl∧fs=[])∨fv = .oth (.rx (fs.map (RV.i .i64)) fs.length 1)
theorem FV.len {fv:V} {fs:List Nat} (H:FV fv fs) (hl:fs.length<9223372036854775808) (κ:V->R):AJ fv κ=κ (.int .i64 fs.length) := by
  rcases H with ⟨rfl, rfl⟩ | rfl
  · rfl
  · exact CD hl κ
theorem FV.ix {fv:V} {fs:List Nat} (H:FV fv fs) (hl:fs.length<9223372036854775808) {i:Nat} (hi:i<fs.length) (h:Heap) (κ:V->R):(AG 1 fv (.int .i64 i) fun zt => Av zt h κ)=κ (.int .i64 fs[i]) := by
  rcases H with ⟨_, rfl⟩ | rfl
  · cases hi
  · rw [PQ hi (by omega), List.drop_eq_getElem_cons (by simpa using hi), PC]; simp [RV.v]
theorem begun10:Y5 (Ak tab 30 ⟨.d0, .d2, .d7⟩ [] AL WS)=true := by kernel_rfl
theorem MS.lt {h:Heap} {n f mp:K4} {av X:List K4} {ts:List Ten} {C:Nat} (M:MS h n f mp av X ts C):mp∈av ∧ ∀ q∈av, q.toN<n.toN := by
  obtain ⟨d, x, dm, pc, lm, sp, rd, calls, b, k, bs, ys, cv, sv, tv, cur, turn, nxt, text, lv, ps, rfl, S, hm, lmp, _⟩ := M
  refine ⟨by simp, fun q hq => ?_⟩
  simp only [List.mem_cons,List.not_mem_nil,or_false] at hq
  have l := S.lt
  rcases hq with h | h | h | h | h | h | h | h <;> rw [h]
  · exact l f (by simp)
  · exact l d (by simp)
  · exact l x (by simp)
  · exact l dm (by simp)
  · exact l pc (by simp)
  · exact l lm (by simp)
  · exact l sp (by simp)
  · exact lmp
theorem MS.get {h:Heap} {n f mp:K4} {av X:List K4} {ts:List Ten} {C:Nat} (M:MS h n f mp av X ts C):∃ sp lv ps, A8 mp h=some (.c (.l [.ptr sp 0, lv]) false none)∧ps.map Prod.fst=ts∧TL h n (av++X) lv ps := by
  obtain ⟨d, x, dm, pc, lm, sp, rd, calls, b, k, bs, ys, cv, sv, tv, cur, turn, nxt, text, lv, ps, rfl, S, hm, lmp, _, hts, T, _⟩ := M
  exact ⟨sp, lv, ps, hm, hts, T⟩
theorem TL.frame {h h':Heap} {n n':K4} {av av':List K4} {v:V} {ps:List (Ten×V)} (H:TL h n av v ps) (hn:n.toN≤n'.toN) (e:∀ p:K4, p.toN<n.toN->(∀ q∈av, p≠q)->A8 p h'=A8 p h ∧ ∀ q∈av', p≠q):TL h' n' av' v ps := ⟨H.1.frame hn e, fun p hp => (H.2 p hp).frame hn e⟩
theorem mbegun:∃ h2 n2 f mp av h1 n1, Ak tab 30 ⟨.d0, .d2, .d7⟩ [] AL WS = .rv (.bool true) h1 n1 ∧ ∃ hA nA, Ak tab 30 ⟨.d0, .d1, .d6⟩ [.int .i64 100000] h1 n1 = .rv (.ptr f 0) hA nA∧Ak tab 30 ⟨.d0, .d2, .d8⟩ [.ptr f 0] hA nA = .rv (.tup [.ptr mp 0, .int .i64 0]) h2 n2∧n2.toN≤4500 ∧ ∀ X, MS h2 n2 f mp av X [] 5 := by
  obtain ⟨h1, n1, e1, b1, f1⟩ := Xy begun10
  have u1 := K4.up_toN (p := n1) (by omega)
  have u2 := K4.up_toN (p := n1.up) (by omega)
  have u3 := K4.up_toN (p := n1.up.up) (by omega)
  have e2 := new_ok (m := 27) (h := h1) (n := n1) (room := 100000) (by omega) (by omega)
  rw [show 27+3=30 from rfl] at e2
  generalize hA:Ac n1.up.up (Ac n1.up (Ac n1 h1 (some (.m [] [] 0))) (some (.m [] [] 0))) (some (.c (.l (fsC 100000 0 0 18446744073709551615 (.map n1) (.map n1.up) (.nil .sl))) false none))=A at e2
  have a1:A8 n1.up.up A=some (.c (.l (fsC 100000 0 0 18446744073709551615 (.map n1) (.map n1.up) (.nil .sl))) false none) := by rw [←hA, A7]
  have a2:A8 n1 A=some (.m [] [] 0) := by rw [←hA]; simp (disch := omega) only [Aj,Aq,A7]
  have a3:Al A n1.up.up.up := fun q hq => by rw [←hA]; simp (disch := omega) only [Aq]; exact f1 q (by omega)
  obtain ⟨h2, n2, mp, av, e3, b2, b3, M⟩ := mcreate_ok (m := 17) (n := n1.up.up.up) a1 a2 a3 (by omega) (by omega) (by omega)
  exact ⟨h2, n2, n1.up.up, mp, av, h1, n1, e1, A, n1.up.up.up, e2, e3, by omega, M⟩
theorem rvi_v (k:IntKind) (r:Nat):(RV.i k r).v = .int k r := id rfl
theorem cvi_u32_i64 {a:Nat} (h:a<4294967296) (κ:V->R):Bw .u32 (.int .i64 a) κ=κ (.int .u32 a) := by
  rw [JE (k := .u32) (j := .i64) (show a<9223372036854775808 by omega), Nat.mod_eq_of_lt (by show a<4294967296; exact h)]
theorem rem_64 {a b:Nat} (ha:a<9223372036854775808) (hb:b<9223372036854775808) (h0:0<b) (κ:V->R):MQ (.int .i64 a) (.int .i64 b) κ=κ (.int .i64 (a % b)) := VL (k := .i64) ha hb h0 κ
noncomputable def mR3 (c:Ei):S->Heap->K4->R := fun t h n=>g7 t fun z3b=>AJ z3b fun z3c=>g5 t fun z3d=>CR z3c z3d fun z3e=>w2 t z3e fun t=>rT t h n
noncomputable def mL3 (c:Ei):S->Heap->K4->R := fun t h n=>g8 t fun z2t=>g7 t fun z2u=>AJ z2u fun z2v=>AO z2t z2v fun z2w=>AZ z2w (Ah 5 (mV z2u fun z2x=>mV z2t fun z2y=>AX (AG 6 z2x z2y AD) fun z2z=>AX (Am 0 z2z AD) fun z30=>AX (Av z30 h AD) fun z31=>mV z2u fun z32=>mV z2t fun z33=>AX (B3 z33 (iI 1) AD) fun z34=>AX (AG 6 z32 z34 AD) fun z35=>AX (Am 0 z35 AD) fun z36=>AX (Av z36 h AD) fun z37=>AX (FH z31 z37 AD) fun z38=>AZ z38 (w2 t (.bool false) fun t=>rT t h n)<|nR t h n) fun t h n=>g8 t fun z39=>AM z39 (iI 1) fun z3a=>w8 t z3a fun t=>nR t h n)<|.ok (.exit 4) t h n
noncomputable def mR2 (c:Ei):S->Heap->K4->R := fun t h n=>g3 t fun z2r=>Ag (c ⟨.d0,.d2,.d12⟩ [z2r] h n) fun z2s h n=>Ah 4 (w7 t z2s fun t=>w8 t (iI 1) fun t=>B8 ((mL3 c)) t h n) (mR3 c)
noncomputable def mL2 (c:Ei):S->Heap->K4->R := fun t h n=>g6 t fun z10=>g1 t fun z11=>AJ z11 fun z12=>AO z10 z12 fun z13=>gK z13 z10 h n fun z14 h n=>gO z13 h n (fun k=>AO z14 (iI 20) k) fun z15 h n=>AF z13 z15 (.bool false) fun z16=>g5 t fun z17=>gK z16 z17 h n fun z18 h n=>gO z16 h n (fun k=>Cb z18 (iI 0) k) fun z19 h n=>AF z16 z19 (.bool false) fun z1a=>AZ z1a (Ah 3 (MQ z10 z17 fun z1b=>B3 (iI 10) z1b fun z1c=>Bw .u32 z1c fun z1d=>Ag (c ⟨.d0,.d2,.d10⟩ [z1d] h n) fun z1e h n=>DE (.l [(iW 0),(iL 0),(iI 0),(iL 0),(iI 0),(.nil .sl)]) h n fun z1f h n=>Di 6 z1f z1e h fun h=>AG 1 z11 z10 fun z1g=>Av z1g h fun z1h=>Am 2 z1f fun z1i=>BQ z1i z1h h fun h=>AG 1 z11 z10 fun z1j=>Av z1j h fun z1k=>CC z1k (iI 1000) fun z1l=>gK z1l z11 h n fun z1m h n=>gK z1l z10 h n fun z1n h n=>gO z1l h n (fun k=>AG 1 z1m z1n k) fun z1o h n=>gO z1l h n (fun k=>Av z1o h k) fun z1p h n=>gO z1l h n (fun k=>FH z1p (iI 65536) k) fun z1q h n=>AF z1l z1q (.bool false) fun z1r=>g3 t fun z1s=>C0 6 z1f h fun z1t=>Ag (c ⟨.d0,.d2,.d9⟩ [z1s,z1t] h n) fun z1u h n=>gK z1r z1u h n fun z1v h n=>gO z1r h n (fun k=>BY z1v (iI 0) k) fun z1w h n=>AF z1r z1w (.bool false) fun z1x=>Bu false z1x h n (fun k=>k z1r h n) fun z1y h n=>Bu false z1x h n (fun k=>Cd z1y fun v=>k v h n) fun z1z h n=>Bu false z1x h n (fun k=>k z1z h n) fun z20 h n=>gK z20 z1u h n fun z21 h n=>gO z20 h n (fun k=>BY z21 (iI 5) k) fun z22 h n=>Bu false z1x h n (fun k=>AF z20 z22 (.bool false) fun v=>k v h n) fun z23 h n=>AF z1x (.bool true) z23 fun z24=>AZ z24 (w2 t (.bool false) fun t=>rT t h n)<|Am 0 z1f fun z25=>Av z25 h fun z26=>Ag (c ⟨.d0,.d2,.d11⟩ [z1s,z26] h n) fun z27 h n=>BD 0 z27 fun z28=>BD 1 z27 fun z29=>DE (.l [(iW 0),(iL 0),(iI 0),(iL 0),(iI 0),(.nil .sl)]) h n fun z2a h n=>Di 6 z2a z28 h fun h=>mV z29 fun z2b=>AX (Cd z2b AD) fun z2c=>mV z2c fun z2d=>OI false z2d (fun k=>AX (AD z1r) k) fun z2e=>OI false z2d (fun k=>AX (AD z2e) k) fun z2f=>gA z2f (Am 2 z2a AD) fun z2g=>gA z2f (Av z2g h AD) fun z2h=>gA z2f (AD z11) fun z2i=>gA z2f (AD z10) fun z2j=>gA z2f (AG 1 z2i z2j AD) fun z2k=>gA z2f (Av z2k h AD) fun z2l=>gA z2f (BY z2h z2l AD) fun z2m=>OI false z2d (fun k=>AX (AF z2f z2m (.bool false) AD) k) fun z2n=>AX (AF z2d (.bool true) z2n AD) fun z2o=>AZ z2o (w2 t (.bool false) fun t=>rT t h n)<|nR t h n) fun t h n=>g6 t fun z2p=>AM z2p (iI 1) fun z2q=>w6 t z2q fun t=>nR t h n)<|.ok (.exit 2) t h n
noncomputable def mR1 (c:Ei):S->Heap->K4->R := fun t h n=>g0 t fun zy=>JT zy (iI 6) fun zz=>Ah 2 (w5 t zz fun t=>w6 t (iI 0) fun t=>B8 ((mL2 c)) t h n) (mR2 c)
noncomputable def mL1 (c:Ei):S->Heap->K4->R := fun t h n=>g4 t fun zd=>g0 t fun ze=>AO zd ze fun zf=>AZ zf (Ah 1 (g3 t fun zg=>B3 (iI 10) zd fun zh=>Bw .u32 zh fun zi=>Ag (c ⟨.d0,.d2,.d10⟩ [zi] h n) fun zj h n=>Ag (c ⟨.d0,.d2,.d9⟩ [zg,zj] h n) fun zk h n=>AO zd (iI 6) fun zl=>gK zl zk h n fun zm h n=>gO zl h n (fun k=>BY zm (iI 0) k) fun zn h n=>AF zl zn (.bool false) fun zo=>Bu false zo h n (fun k=>k zd h n) fun zp h n=>Bu false zo h n (fun k=>CC zp (iI 6) fun v=>k v h n) fun zq h n=>Bu false zo h n (fun k=>k zq h n) fun zr h n=>gK zr zk h n fun zs h n=>gO zr h n (fun k=>BY zs (iI 2) k) fun zt h n=>Bu false zo h n (fun k=>AF zr zt (.bool false) fun v=>k v h n) fun zu h n=>AF zo (.bool true) zu fun zv=>AZ zv (w2 t (.bool false) fun t=>rT t h n)<|nR t h n) fun t h n=>g4 t fun zw=>AM zw (iI 1) fun zx=>w4 t zx fun t=>nR t h n)<|.ok (.exit 0) t h n
noncomputable def x7L:Ent := .code en1 (fun c t h n=>Ag (c ⟨.d0,.d2,.d7⟩ [] h n) fun z1 h n=>Cd z1 fun z2=>AZ z2 (w2 t (.bool false) fun t=>rT t h n)<|g0 t fun z3=>AO z3 (iI 0) fun z4=>Bu false z4 h n (fun k=>k z3 h n) fun z5 h n=>Bu false z4 h n (fun k=>Cb z5 (iI 10) fun v=>k v h n) fun z6 h n=>AF z4 (.bool true) z6 fun z7=>AZ z7 (w2 t (.bool true) fun t=>rT t h n)<|Ag (c ⟨.d0,.d1,.d6⟩ [(iI 100000)] h n) fun z8 h n=>Ag (c ⟨.d0,.d2,.d8⟩ [z8] h n) fun z9 h n=>BD 0 z9 fun za=>BD 1 z9 fun zb=>BY zb (iI 0) fun zc=>AZ zc (w2 t (.bool false) fun t=>w3 t za fun t=>rT t h n)<|Ah 0 (w2 t (.bool false) fun t=>w3 t za fun t=>w4 t (iI 0) fun t=>B8 ((mL1 c)) t h n) (mR1 c)) (fun t h n=>g2 t fun a0=>.rv a0 h n)
theorem x7_L:x7=x7L := rfl
/-- The tenants of the names 11 - k to 10. -/
structure TI (ts:List Ten) (k:Nat):Prop where
  f:Fine ts 2
  l:ts.length=k
  m:∀ id, (∃ t∈ts, t.id=id) ↔ (10<id+k∧id≤10)
theorem filT_none {ts:List Ten} {id:Nat} (h:¬ ∃ t∈ts, t.id=id):filT ts id=ts := List.filter_eq_self.2 fun t ht => decide_eq_true fun e => h ⟨t, ht, e⟩
theorem filT_len {ts:List Ten} {id:Nat} (h:∃ t∈ts, t.id=id) (O:(ts.map Ten.id).Pairwise (· < ·)):(filT ts id).length+1=ts.length := by
  obtain ⟨t, ht, hid⟩ := h
  obtain ⟨a, b, rfl⟩ := List.append_of_mem ht
  rw [List.map_append, List.map_cons, List.pairwise_append] at O
  obtain ⟨o1, o2, o3⟩ := O
  rw [List.pairwise_cons] at o2
  have ha:∀ x∈a, x.id≠id := fun x hx => by
    have := o3 x.id (List.mem_map_of_mem hx) t.id List.mem_cons_self
    omega
  have hb:∀ x∈b, x.id≠id := fun x hx => by
    have := o2.1 x.id (List.mem_map_of_mem hx)
    omega
  unfold filT
  rw [List.filter_append, List.filter_cons_of_neg (by simp [hid]), List.filter_eq_self.2 fun x hx => decide_eq_true (ha x hx), List.filter_eq_self.2 fun x hx => decide_eq_true (hb x hx)]
  simp; omega
theorem mem_us {ts us:List Ten} {t:Ten} (hp:us.Perm (filT ts t.id++[t])) (id:Nat):(∃ u∈us, u.id=id) ↔ ((∃ u∈ts, u.id=id)∨id=t.id) := by
  constructor
  · rintro ⟨u, hu, rfl⟩
    rcases List.mem_append.1 (hp.mem_iff.1 hu) with h | h
    · exact .inl ⟨u, (List.mem_filter.1 h).1, rfl⟩
    · exact .inr (by rw [List.mem_singleton.1 h])
  · intro h
    by_cases hid:id=t.id
    · exact ⟨t, hp.mem_iff.2 (by simp), hid.symm⟩
    · obtain ⟨u, hu, rfl⟩ := h.resolve_right hid
      exact ⟨u, hp.mem_iff.2 (List.mem_append_left _ (List.mem_filter.2 ⟨hu, decide_eq_true hid⟩)), rfl⟩
def ten (id q:Nat):Ten := ⟨id, 1, q, 1, 3, [1, 2]⟩
theorem good_ten {id q:Nat} (h:id<4294967296) (hq:q<18446744073709551616):Good (ten id q) := ⟨h, show (1:Nat)≤1 by decide, show (1:Nat)≤1099511627776 by decide, show (1:Nat)≤1 by decide, show (1:Nat)≤1099511627776 by decide, show (1:Nat)≤3 by decide, show (3:Nat)≤1099511627776 by decide, hq, show [1, 2].length≤60 by decide, fun s hs => by
  rcases List.mem_cons.1 hs with rfl | hs
  · exact ⟨by decide, show 1<3 by decide⟩
  · rw [List.mem_singleton.1 hs]; exact ⟨by decide, show 2<3 by decide⟩, show [1, 2].Pairwise (· < ·) by decide⟩
theorem m1_loop {nn:Nat} {fv:V} {f mp:K4} (hn10:nn≤10) :
    ∀ (j i:Nat) (h:Heap) (n:K4) (av:List K4) (ts:List Ten) (C:Nat), i+j=nn->MS h n f mp av [] ts C->TI ts (min i 6)->C≤5+2*i->n.toN≤4500+i*1060 →
    ∃ h' n' av' ts' C', (∀ K, Cr (mL1 (Ak tab 30)) (K+j+1) (.mk (.mk (.int .i64 nn) fv (.bool false) (.ptr mp 0)) (.mk (.int .i64 i) Ar Ar Ar) Q0 Q0 Q0 Q0 Q0 Q0) h n = .ok (.exit 0) (.mk (.mk (.int .i64 nn) fv (.bool false) (.ptr mp 0)) (.mk (.int .i64 nn) Ar Ar Ar) Q0 Q0 Q0 Q0 Q0 Q0) h' n') ∧
      MS h' n' f mp av' [] ts' C'∧TI ts' (min nn 6)∧C'≤5+2*nn∧n'.toN≤4500+nn*1060 := by
  intro j
  induction j with
  | zero =>
    intro i h n av ts C hi M T hC hn
    obtain rfl:i=nn := by omega
    refine ⟨h, n, av, ts, C, fun K => ?_, M, T, hC, hn⟩
    rw [BN]
    unfold mL1
    simp (disch := omega) only [qa,g0,g1,g2,g3,g4,g5,g6,g7,g8,g9,Bb,B9,B7,Bd,Bq,Bi,Bt,Bk,Bl,Bp,w0,w1,w2,w3,w4,w5,w6,w7,w8,w9,Bc,Ba,B5,Bo,Be,Bm,Br,Bs,Bj,Bf,Mk,Nat.reduceAdd,Nat.reduceSub,Nat.reduceMul,Nat.reduceMod,Nat.reduceDiv,Q0,U]
  | succ j ih =>
    intro i h n av ts C hi M T hC hn
    obtain ⟨h1, e1, p1, u1, u2, f1, r1⟩ := one_ok (m := 29) (id := 10 - i) (h := h) (n := n) (by omega)
    rw [show 29+1=30 from rfl] at e1
    change Ak tab 30 ⟨.d0, .d2, .d10⟩ [.int .u32 (10 - i)] h n = .rv (.agg (tc (ten (10 - i) 5000, .sl n.up 0 2 2 true 1))) h1 n.up.up at e1
    have M1 := M.more (by omega) f1 (r1 M.fr)
    have LT:LS h1 n.up.up [] 1 (.sl n.up 0 2 2 true 1) ((ten (10 - i) 5000).segs.map (V.int .i64)) (ten (10 - i) 5000).segs.length := .inr ⟨n.up, 0, 2, true, _, false, none, rfl, p1, by simp [ten], by simp [ten], by omega, fun q hq => by cases hq⟩
    have okT:okb (ten (10 - i) 5000)=true := by unfold okb; exact decide_eq_true (show 1000≤5000∧5000≤65536 by decide)
    obtain ⟨h2, n2, av2, r, e2, b1, b2, _, res⟩ := put_any (m := 17) (s := 2) (t := (ten (10 - i) 5000, .sl n.up 0 2 2 true 1)) M1 (fun q hq => by cases hq) T.f (good_ten (by omega) (by decide)) (by show [1, 2].length≤2; decide) (by decide) LT (by omega) (by omega)
    rw [show 17+13=30 from rfl] at e2
    have hmod:∀ κ:V->R, B3 (.int .i64 10) (.int .i64 i) κ=κ (.int .i64 (10 - i)) := fun κ => by rw [Sx, HS (by omega) (by omega)]
    have hno:filT ts (10 - i)=ts := filT_none fun he => by have := (T.m (10 - i)).1 he; omega
    have hno':filT ts (ten (10 - i) 5000, V.sl n.up 0 2 2 true 1).1.id=ts := hno
    rw [hno', T.l] at res
    rcases (by omega:i<6∨6≤i) with h6 | h6
    · obtain ⟨rfl, us, hus, Fu, M2⟩:r=0 ∧ ∃ us, us.Perm (ts++[ten (10 - i) 5000])∧Fine us 2∧MS h2 n2 f mp av2 [] us (C+2) := by
        rcases res with ⟨hc, _⟩ | ⟨_, hc, _⟩ | ⟨_, _, hc, us, h1, h2, h3⟩
        · omega
        · have := okT.symm.trans hc; cases this
        · exact ⟨hc, us, h1, h2, h3⟩
      have T2:TI us (min (i+1) 6) := ⟨Fu, by have h1 := hus.length_eq; simp only [List.length_append,List.length_cons,List.length_nil] at h1; have h2 := T.l; omega, fun id => by
        have := mem_us (ts := ts) (us := us) (t := ten (10 - i) 5000) (by rw [show (ten (10 - i) 5000).id=10 - i from rfl, hno]; exact hus) id
        rw [this, T.m id, show (ten (10 - i) 5000).id=10 - i from rfl]; omega⟩
      obtain ⟨h3, n3, av3, ts3, C3, e3, k1, k2, k3, k4⟩ := ih (i+1) h2 n2 av2 us (C+2) (by omega) M2 T2 (by omega) (by omega)
      refine ⟨h3, n3, av3, ts3, C3, fun K => ?_, k1, k2, k3, k4⟩
      rw [BN, show K+(j+1)=K+j+1 by omega, ←e3 K]
      generalize Cr (mL1 (Ak tab 30)) (K+j+1)=G'
      unfold mL1
      simp (config := {maxSteps := 3000000}) (disch := omega) only [qa,g0,g1,g2,g3,g4,g5,g6,g7,g8,g9,Bb,B9,B7,Bd,Bq,Bi,Bt,Bk,Bl,Bp,w0,w1,w2,w3,w4,w5,w6,w7,w8,w9,Bc,Ba,B5,Bo,Be,Bm,Br,Bs,Bj,Bf,Mk,Nat.reduceAdd,Nat.reduceSub,Nat.reduceMul,Nat.reduceMod,Nat.reduceDiv,Q0,U,hmod,cvi_u32_i64,e1,e2,EN,EO,FF,FG,DJ,D9]
    · obtain ⟨rfl, M2⟩:r=2∧MS h2 n2 f mp av2 [] ts C := by
        rcases res with ⟨_, hc, h1⟩ | ⟨hc, _⟩ | ⟨hc, _⟩
        · exact ⟨hc, h1⟩
        · omega
        · omega
      have T2:TI ts (min (i+1) 6) := by rw [show min (i+1) 6=min i 6 by omega]; exact T
      obtain ⟨h3, n3, av3, ts3, C3, e3, k1, k2, k3, k4⟩ := ih (i+1) h2 n2 av2 ts C (by omega) M2 T2 (by omega) (by omega)
      refine ⟨h3, n3, av3, ts3, C3, fun K => ?_, k1, k2, k3, k4⟩
      rw [BN, show K+(j+1)=K+j+1 by omega, ←e3 K]
      generalize Cr (mL1 (Ak tab 30)) (K+j+1)=G'
      unfold mL1
      simp (config := {maxSteps := 3000000}) (disch := omega) only [qa,g0,g1,g2,g3,g4,g5,g6,g7,g8,g9,Bb,B9,B7,Bd,Bq,Bi,Bt,Bk,Bl,Bp,w0,w1,w2,w3,w4,w5,w6,w7,w8,w9,Bc,Ba,B5,Bo,Be,Bm,Br,Bs,Bj,Bf,Mk,Nat.reduceAdd,Nat.reduceSub,Nat.reduceMul,Nat.reduceMod,Nat.reduceDiv,Q0,U,hmod,cvi_u32_i64,e1,e2,EN,EO,FF,FG,DJ,D9]
theorem m2_out {nn k i:Nat} {x2 x3 x4 fv:V} {fs:List Nat} {h:Heap} {n:K4} (hln:∀ κ:V->R, AJ fv κ=κ (.int .i64 fs.length)) (hl:fs.length<9223372036854775808) (hk:k≤6) (hi2:i≤20) (hi:¬ (i<fs.length∧i<20∧0<k)) :
    mL2 (Ak tab 30) (.mk (.mk (.int .i64 nn) fv x2 x3) (.mk x4 (.int .i64 k) (.int .i64 i) Ar) Q0 Q0 Q0 Q0 Q0 Q0) h n = .ok (.exit 2) (.mk (.mk (.int .i64 nn) fv x2 x3) (.mk x4 (.int .i64 k) (.int .i64 i) Ar) Q0 Q0 Q0 Q0 Q0 Q0) h n := by
  unfold mL2
  by_cases h1:i<fs.length
  · by_cases h2:i<20
    · obtain rfl:k=0 := by omega
      simp (disch := omega) only [qa,g0,g1,g2,g3,g4,g5,g6,g7,g8,g9,Bb,B9,B7,Bd,Bq,Bi,Bt,Bk,Bl,Bp,w0,w1,w2,w3,w4,w5,w6,w7,w8,w9,Bc,Ba,B5,Bo,Be,Bm,Br,Bs,Bj,Bf,Mk,Nat.reduceAdd,Nat.reduceSub,Nat.reduceMul,Nat.reduceMod,Nat.reduceDiv,Q0,U,hln,decide_eq_true h1,decide_eq_true h2,EN,EO,FF,FG,DJ,D9]
    · simp (disch := omega) only [qa,g0,g1,g2,g3,g4,g5,g6,g7,g8,g9,Bb,B9,B7,Bd,Bq,Bi,Bt,Bk,Bl,Bp,w0,w1,w2,w3,w4,w5,w6,w7,w8,w9,Bc,Ba,B5,Bo,Be,Bm,Br,Bs,Bj,Bf,Mk,Nat.reduceAdd,Nat.reduceSub,Nat.reduceMul,Nat.reduceMod,Nat.reduceDiv,Q0,U,hln,decide_eq_true h1,decide_eq_false h2,EN,EO,FF,FG,DJ,D9]
  · simp (disch := omega) only [qa,g0,g1,g2,g3,g4,g5,g6,g7,g8,g9,Bb,B9,B7,Bd,Bq,Bi,Bt,Bk,Bl,Bp,w0,w1,w2,w3,w4,w5,w6,w7,w8,w9,Bc,Ba,B5,Bo,Be,Bm,Br,Bs,Bj,Bf,Mk,Nat.reduceAdd,Nat.reduceSub,Nat.reduceMul,Nat.reduceMod,Nat.reduceDiv,Q0,U,hln,decide_eq_false h1,EN,EO,FF,FG,DJ,D9]
set_option maxHeartbeats 2000000 in
theorem m2_in {nn k i C:Nat} {x4:V} {fs:List Nat} {h:Heap} {n f mp:K4} {av:List K4} {ts:List Ten} (hl:fs.length<9223372036854775808) (hf2:∀ r∈fs, r<18446744073709551616) (hi:i<fs.length) (hi2:i<20) (hk:0<k) (hk6:k≤6) (M:MS h n f mp av [] ts C) (T:TI ts k) (hC:C<700000) (hn:n.toN<37000) :
    ∃ h' n' av' ts' C', mL2 (Ak tab 30) (.mk (.mk (.int .i64 nn) (.oth (.rx (fs.map (RV.i .i64)) fs.length 1)) (.bool false) (.ptr mp 0)) (.mk x4 (.int .i64 k) (.int .i64 i) Ar) Q0 Q0 Q0 Q0 Q0 Q0) h n = .ok .nrm (.mk (.mk (.int .i64 nn) (.oth (.rx (fs.map (RV.i .i64)) fs.length 1)) (.bool false) (.ptr mp 0)) (.mk x4 (.int .i64 k) (.int .i64 (i+1)) Ar) Q0 Q0 Q0 Q0 Q0 Q0) h' n' ∧
      MS h' n' f mp av' [] ts' C'∧TI ts' k∧C'≤C+2∧n'.toN≤n.toN+1092 := by
  have hq := hf2 _ (List.getElem_mem hi)
  have hdf:(fs.map (RV.i .i64)).drop i=RV.i .i64 fs[i]::(fs.map (RV.i .i64)).drop (i+1) := by rw [List.drop_eq_getElem_cons (by simpa using hi)]; simp
  generalize fs[i]=q at hq hdf
  have hrem:∀ κ:V->R, MQ (.int .i64 i) (.int .i64 k) κ=κ (.int .i64 (i % k)) := fun κ => rem_64 (by omega) (by omega) hk κ
  have he:i % k<k := Nat.mod_lt _ hk
  generalize i % k=e at hrem he
  have hmod:∀ κ:V->R, B3 (.int .i64 10) (.int .i64 e) κ=κ (.int .i64 (10 - e)) := fun κ => by rw [Sx, HS (by omega) (by omega)]
  obtain ⟨h1, e1, p1, u1, u2, f1, r1⟩ := one_ok (m := 29) (id := 10 - e) (h := h) (n := n) (by omega)
  rw [show 29+1=30 from rfl] at e1
  change Ak tab 30 ⟨.d0, .d2, .d10⟩ [.int .u32 (10 - e)] h n = .rv (.agg [.int .u32 (10 - e), .int .u64 1, .int .i64 5000, .int .u64 1, .int .i64 3, .sl n.up 0 2 2 true 1]) h1 n.up.up at e1
  have u3 := K4.up_toN (p := n.up.up) (by omega)
  obtain ⟨lmp, lav⟩ := M.lt
  have M0fr := M.fr
  generalize hsv:V.sl n.up 0 2 2 true 1=sv at e1
  generalize hB:Ac n.up.up h1 (some (.c (.l [.int .u32 (10 - e), .int .u64 1, .int .i64 q, .int .u64 1, .int .i64 3, sv]) false none))=B
  have c1:A8 n.up.up B=some (.c (.l [.int .u32 (10 - e), .int .u64 1, .int .i64 q, .int .u64 1, .int .i64 3, sv]) false none) := by rw [←hB, A7]
  have c2:∀ q':K4, q'.toN<n.toN->A8 q' B=A8 q' h := fun q' hq' => by rw [←hB, Aj (by omega)]; exact f1 q' hq'
  have c3:Al B n.up.up.up := fun q' hq' => by rw [←hB, Aq (by omega)]; exact r1 M0fr q' (by omega)
  have c4:A8 n.up B=some (.c (.l [.int .i64 1, .int .i64 2]) false none) := by rw [←hB, Aj (by omega), p1]
  have MB := M.more (by omega) c2 c3
  have LT:LS B n.up.up.up [] 1 sv ((ten (10 - e) q).segs.map (V.int .i64)) (ten (10 - e) q).segs.length := by rw [←hsv]; exact .inr ⟨n.up, 0, 2, true, _, false, none, rfl, c4, by simp [ten], by simp [ten], by omega, fun q hq => by cases hq⟩
  obtain ⟨h2, n2, av2, r, e2, b1, b2, f2, res⟩ := put_any (m := 17) (s := 2) (t := (ten (10 - e) q, sv)) MB (fun q hq => by cases hq) T.f (good_ten (by omega) hq) (by show [1, 2].length≤2; decide) (by decide) LT (by omega) (by omega)
  rw [show 17+13=30 from rfl] at e2
  change Ak tab 30 ⟨.d0, .d2, .d9⟩ [.ptr mp 0, .agg [.int .u32 (10 - e), .int .u64 1, .int .i64 q, .int .u64 1, .int .i64 3, sv]] B n.up.up.up=_ at e2
  have p2:A8 n.up.up h2=some (.c (.l [.int .u32 (10 - e), .int .u64 1, .int .i64 q, .int .u64 1, .int .i64 3, sv]) false none) := ((f2 n.up.up (by omega) (fun r hr => (K4.ne_of_lt (by have := lav r hr; omega)).symm)).1).trans c1
  have hfl := filT_len ((T.m (10 - e)).2 (by omega)) T.f.o
  have hfl':(filT ts (ten (10 - e) q, sv).1.id).length+1=k := by rw [←T.l]; exact hfl
  rw [hfl'] at res
  -- what is E5 behind it
  have key:(okb (ten (10 - e) q)=true∧r=0∨okb (ten (10 - e) q)=false∧r=5) ∧ ∃ us C', MS h2 n2 f mp av2 [] us C'∧TI us k∧C'≤C+2∧(okb (ten (10 - e) q)=true->∀ u∈us, u.id=10 - e->u.qu=q) := by
    rcases res with ⟨hc, _⟩ | ⟨_, hc, hr, M2⟩ | ⟨_, hc, hr, us, hus, Fu, M2⟩
    · omega
    · exact ⟨.inr ⟨hc, hr⟩, ts, C, M2, T, by omega, fun h => by have := h.symm.trans hc; cases this⟩
    · refine ⟨.inl ⟨hc, hr⟩, us, C+2, M2, ⟨Fu, ?_, fun id => ?_⟩, Nat.le_refl _, fun _ u hu hid => ?_⟩
      · have h1 := hus.length_eq
        have h2:(filT ts (ten (10 - e) q, sv).1.id).length=(filT ts (ten (10 - e) q).id).length := rfl
        simp only [List.length_append,List.length_cons,List.length_nil] at h1
        omega
      · have := mem_us (ts := ts) (us := us) (t := ten (10 - e) q) hus id
        rw [this, T.m id, show (ten (10 - e) q).id=10 - e from rfl]; omega
      · rcases List.mem_append.1 (hus.mem_iff.1 hu) with h | h
        · exact absurd hid (of_decide_eq_true (List.mem_filter.1 h).2)
        · rw [List.mem_singleton.1 h]; rfl
  obtain ⟨hr, us, C', M2, T2, hC', hqu⟩ := key
  obtain ⟨sp2, lv2, ps2, hm2, hts2, TL2⟩ := M2.get
  obtain ⟨lmp2, lav2⟩ := M2.lt
  have lps:ps2.length=k := by have := congrArg List.length hts2; rw [List.length_map, T2.l] at this; exact this
  have hex:∃ x∈ps2, x.1.id=10 - e := by
    obtain ⟨u, hu, hid⟩ := (T2.m (10 - e)).2 (by omega)
    rw [←hts2] at hu
    obtain ⟨x, hx, rfl⟩ := List.mem_map.1 hu
    exact ⟨x, hx, hid⟩
  obtain ⟨h3, n3, x, e3, hx1, hx2, _, b3, b4, f3, r3⟩ := get_ok (m := 26) (id := 10 - e) hm2 (lav2 mp lmp2) TL2 (by omega) (fun x hx => by
    have:x.1∈us := by rw [←hts2]; exact List.mem_map_of_mem hx
    have := T2.f.s _ this; omega) hex (by omega)
  rw [show 26+4=30 from rfl] at e3
  rw [hts2] at hx1
  have u4 := K4.up_toN (p := n3) (by omega)
  have hxq := fun hok => hqu hok x.1 hx1 hx2
  have M3 := M2.more b3 f3 (r3 M2.fr)
  generalize hD:Ac n3 h3 (some (.c (.l (tc x)) false none))=Dh
  have d1:A8 n3 Dh=some (.c (.l (tc x)) false none) := by rw [←hD, A7]
  have M4:MS Dh n3.up f mp av2 [] us C' := M3.more (by omega) (fun q' hq' => by rw [←hD, Aj hq']) (fun q' hq' => by rw [←hD, Aq (by omega)]; exact M3.fr q' (by omega))
  refine ⟨Dh, n3.up, av2, us, C', ?_, M4, T2, hC', by omega⟩
  have hkk:decide (0<k)=true := decide_eq_true hk
  rcases (by omega:(1000≤q∧q≤65536)∨q<1000∨(65536<q∧q<9223372036854775808)∨9223372036854775808≤q) with hc | hc | hc | hc
  · have hok:okb (ten (10 - e) q)=true := by unfold okb; exact decide_eq_true hc
    obtain rfl:r=0 := by
      rcases hr with ⟨_, h⟩ | ⟨h, _⟩
      · exact h
      · have := hok.symm.trans h; cases this
    have hxq':decide (¬ x.1.qu=q)=false := decide_eq_false (fun hn => hn (hxq hok))
    unfold mL2
    simp (config := {maxSteps := 3000000}) (disch := omega) only [qa,g0,g1,g2,g3,g4,g5,g6,g7,g8,g9,Bb,B9,B7,Bd,Bq,Bi,Bt,Bk,Bl,Bp,w0,w1,w2,w3,w4,w5,w6,w7,w8,w9,Bc,Ba,B5,Bo,Be,Bm,Br,Bs,Bj,Bf,Mk,Nat.reduceAdd,Nat.reduceSub,Nat.reduceMul,Nat.reduceMod,Nat.reduceDiv,Q0,U,decide_eq_true hi,hkk,hrem,hmod,cvi_u32_i64,e1,H5,PQ,hdf,PC,rvi_v,hB,c1,Et,e2,p2,e3,hD,d1,hxq',EN,EO,FF,FG,DJ,D9]
  · have hok:okb (ten (10 - e) q)=false := by unfold okb; exact decide_eq_false (show ¬ (1000≤q∧q≤65536) by omega)
    obtain rfl:r=5 := by
      rcases hr with ⟨h, _⟩ | ⟨_, h⟩
      · have := hok.symm.trans h; cases this
      · exact h
    unfold mL2
    simp (config := {maxSteps := 3000000}) (disch := omega) only [qa,g0,g1,g2,g3,g4,g5,g6,g7,g8,g9,Bb,B9,B7,Bd,Bq,Bi,Bt,Bk,Bl,Bp,w0,w1,w2,w3,w4,w5,w6,w7,w8,w9,Bc,Ba,B5,Bo,Be,Bm,Br,Bs,Bj,Bf,Mk,Nat.reduceAdd,Nat.reduceSub,Nat.reduceMul,Nat.reduceMod,Nat.reduceDiv,Q0,U,decide_eq_true hi,hkk,hrem,hmod,cvi_u32_i64,e1,H5,PQ,hdf,PC,rvi_v,hB,c1,Et,e2,p2,e3,hD,d1,EN,EO,FF,FG,DJ,D9]
  · have hok:okb (ten (10 - e) q)=false := by unfold okb; exact decide_eq_false (show ¬ (1000≤q∧q≤65536) by omega)
    obtain rfl:r=5 := by
      rcases hr with ⟨h, _⟩ | ⟨_, h⟩
      · have := hok.symm.trans h; cases this
      · exact h
    unfold mL2
    simp (config := {maxSteps := 3000000}) (disch := omega) only [qa,g0,g1,g2,g3,g4,g5,g6,g7,g8,g9,Bb,B9,B7,Bd,Bq,Bi,Bt,Bk,Bl,Bp,w0,w1,w2,w3,w4,w5,w6,w7,w8,w9,Bc,Ba,B5,Bo,Be,Bm,Br,Bs,Bj,Bf,Mk,Nat.reduceAdd,Nat.reduceSub,Nat.reduceMul,Nat.reduceMod,Nat.reduceDiv,Q0,U,decide_eq_true hi,hkk,hrem,hmod,cvi_u32_i64,e1,H5,PQ,hdf,PC,rvi_v,hB,c1,Et,e2,p2,e3,hD,d1,EN,EO,FF,FG,DJ,D9]
  · have hok:okb (ten (10 - e) q)=false := by unfold okb; exact decide_eq_false (show ¬ (1000≤q∧q≤65536) by omega)
    obtain rfl:r=5 := by
      rcases hr with ⟨h, _⟩ | ⟨_, h⟩
      · have := hok.symm.trans h; cases this
      · exact h
    unfold mL2
    simp (config := {maxSteps := 3000000}) (disch := omega) only [qa,g0,g1,g2,g3,g4,g5,g6,g7,g8,g9,Bb,B9,B7,Bd,Bq,Bi,Bt,Bk,Bl,Bp,w0,w1,w2,w3,w4,w5,w6,w7,w8,w9,Bc,Ba,B5,Bo,Be,Bm,Br,Bs,Bj,Bf,Mk,Nat.reduceAdd,Nat.reduceSub,Nat.reduceMul,Nat.reduceMod,Nat.reduceDiv,Q0,U,decide_eq_true hi,hkk,hrem,hmod,cvi_u32_i64,e1,H5,PQ,hdf,PC,rvi_v,hB,c1,Et,e2,p2,e3,hD,d1,EN,EO,FF,FG,DJ,D9]
theorem m2_loop {nn k:Nat} {x4 fv:V} {fs:List Nat} {f mp:K4} (hfv:FV fv fs) (hl:fs.length<9223372036854775808) (hf2:∀ r∈fs, r<18446744073709551616) (hk6:k≤6) :
    ∀ (j i:Nat) (h:Heap) (n:K4) (av:List K4) (ts:List Ten) (C:Nat), i+j=(if 0<k then min fs.length 20 else 0)->MS h n f mp av [] ts C->TI ts k->C≤100+2*i->n.toN≤15100+i*1092 →
    ∃ h' n' av' ts' C' i', (∀ K, Cr (mL2 (Ak tab 30)) (K+j+1) (.mk (.mk (.int .i64 nn) fv (.bool false) (.ptr mp 0)) (.mk x4 (.int .i64 k) (.int .i64 i) Ar) Q0 Q0 Q0 Q0 Q0 Q0) h n = .ok (.exit 2) (.mk (.mk (.int .i64 nn) fv (.bool false) (.ptr mp 0)) (.mk x4 (.int .i64 k) (.int .i64 i') Ar) Q0 Q0 Q0 Q0 Q0 Q0) h' n')∧MS h' n' f mp av' [] ts' C'∧TI ts' k∧n'.toN≤37000 := by
  intro j
  induction j with
  | zero =>
    intro i h n av ts C hi M T hC hn
    have hi20:i≤20 := by split at hi <;> omega
    refine ⟨h, n, av, ts, C, i, fun K => ?_, M, T, by omega⟩
    rw [BN, m2_out (hfv.len hl) hl hk6 hi20 (by split at hi <;> omega), U0]
  | succ j ih =>
    intro i h n av ts C hi M T hC hn
    have hk:0<k := by
      rcases Nat.eq_zero_or_pos k with h | h
      · rw [if_neg (by omega)] at hi; omega
      · exact h
    rw [if_pos hk] at hi
    have hif:i<fs.length := by omega
    rcases hfv with ⟨_, rfl⟩ | rfl
    · cases hif
    obtain ⟨h1, n1, av1, ts1, C1, e1, M1, T1, k1, k2⟩ := m2_in (nn := nn) (x4 := x4) hl hf2 hif (by omega) hk hk6 M T (by omega) (by omega)
    obtain ⟨h2, n2, av2, ts2, C2, i2, e2, M2, T2, k3⟩ := ih (i+1) h1 n1 av1 ts1 C1 (by rw [if_pos hk]; omega) M1 T1 (by omega) (by omega)
    refine ⟨h2, n2, av2, ts2, C2, i2, fun K => ?_, M2, T2, k3⟩
    rw [BN, show K+(j+1)=K+j+1 by omega, e1, N1]
    exact e2 K
theorem m3_loop {h:Heap} {n:K4} {x0 x1 x3 x4 x5 x6 lv:V} {av:List K4} {ps:List (Ten×V)} (H:TL h n av lv ps) (hk:ps.length≤6) (hid:∀ x∈ps, x.1.id<4294967296) (O:(ps.map fun x => x.1.id).Pairwise (· < ·)) :
    ∀ (j i:Nat), 1≤i->i+j=max 1 ps.length →
      ∀ K, Cr (mL3 (Ak tab 30)) (K+j+1) (.mk (.mk x0 x1 (.bool false) x3) (.mk x4 x5 x6 lv) (.mk (.int .i64 i) Ar Ar Ar) Q0 Q0 Q0 Q0 Q0) h n = .ok (.exit 4) (.mk (.mk x0 x1 (.bool false) x3) (.mk x4 x5 x6 lv) (.mk (.int .i64 (max 1 ps.length)) Ar Ar Ar) Q0 Q0 Q0 Q0 Q0) h n := by
  have hln := H.1.len (by omega)
  intro j
  induction j with
  | zero =>
    intro i h1 hi K
    obtain rfl:i=max 1 ps.length := by omega
    rw [BN]
    unfold mL3
    simp (disch := omega) only [qa,g0,g1,g2,g3,g4,g5,g6,g7,g8,g9,Bb,B9,B7,Bd,Bq,Bi,Bt,Bk,Bl,Bp,w0,w1,w2,w3,w4,w5,w6,w7,w8,w9,Bc,Ba,B5,Bo,Be,Bm,Br,Bs,Bj,Bf,Mk,Nat.reduceAdd,Nat.reduceSub,Nat.reduceMul,Nat.reduceMod,Nat.reduceDiv,Q0,U,hln]
  | succ j ih =>
    intro i h1 hi K
    have hil:i<ps.length := by omega
    obtain ⟨p, o, e1, _, e2⟩ := H.ix hil (by omega)
    obtain ⟨p', o', e3, _, e4⟩ := H.ix (i := i - 1) (by omega) (by omega)
    have hlt:ps[i - 1].1.id<ps[i].1.id := by
      have := List.pairwise_iff_getElem.1 O (i - 1) i (by simp; omega) (by simp; omega) (by omega)
      simpa using this
    have hb := hid _ (List.getElem_mem hil)
    rw [BN, show K+(j+1)=K+j+1 by omega, ←ih (i+1) (by omega) (by omega) K]
    generalize Cr (mL3 (Ak tab 30)) (K+j+1)=G'
    generalize ps[i - 1].1.id=a at *
    generalize ps[i].1.id=b at *
    unfold mL3
    simp (config := {maxSteps := 3000000}) (disch := omega) only [qa,g0,g1,g2,g3,g4,g5,g6,g7,g8,g9,Bb,B9,B7,Bd,Bq,Bi,Bt,Bk,Bl,Bp,w0,w1,w2,w3,w4,w5,w6,w7,w8,w9,Bc,Ba,B5,Bo,Be,Bm,Br,Bs,Bj,Bf,Mk,Nat.reduceAdd,Nat.reduceSub,Nat.reduceMul,Nat.reduceMod,Nat.reduceDiv,Q0,U,hln,e1,e2,e3,e4,Pi,Nat.add_zero]
set_option maxHeartbeats 1000000 in
theorem many_run {nn:Nat} {fs:List Nat} {fv:V} (hnn:nn≤10) (hfv:FV fv fs) (hl:fs.length<9223372036854775808) (hf2:∀ r∈fs, r<18446744073709551616):Se (Ak tab 31 ⟨.d0, .d0, .d7⟩ [.int .i64 nn, fv] AL WS)=true := by
  obtain ⟨h2, n2, f, mp, av, h1, n1, e1, hA, nA, e2, e3, b1, M⟩ := mbegun
  obtain ⟨h4, n4, av4, ts4, C4, eL1, M4, T4, k1, k2⟩ := m1_loop (fv := fv) hnn nn 0 h2 n2 av [] 5 (by omega) (M []) ⟨⟨(fun t ht => by cases ht), (fun t ht => by cases ht), (fun t ht => by cases ht), List.Pairwise.nil, by decide⟩, rfl, fun id => ⟨(fun ⟨t, ht, _⟩ => by cases ht), fun h => by omega⟩⟩ (by omega) (by omega)
  have eK1 := eL1 (999999999 - nn)
  rw [show 999999999 - nn+nn+1=999999999+1 by omega, BN] at eK1
  simp only [Q0] at eK1
  have hmin:∀ κ:V->R, JT (.int .i64 nn) (.int .i64 6) κ=κ (.int .i64 (min nn 6)) := fun κ => by
    rw [W5 (by omega) (by omega), Ka (by omega) (by omega)]
    rcases Nat.lt_or_ge 6 nn with h | h
    · rw [decide_eq_true h, Nat.min_eq_right (by omega)]; rfl
    · rw [decide_eq_false (by omega), Nat.min_eq_left h]; rfl
  generalize hk:min nn 6=k at *
  obtain ⟨h5, n5, av5, ts5, C5, i5, eL2, M5, T5, k3⟩ := m2_loop (nn := nn) (x4 := .int .i64 nn) hfv hl hf2 (show k≤6 by omega) (if 0<k then min fs.length 20 else 0) 0 h4 n4 av4 ts4 C4 (by omega) M4 T4 (by omega) (by omega)
  have hj:(if 0<k then min fs.length 20 else 0)≤20 := by split <;> omega
  generalize (if 0<k then min fs.length 20 else 0)=jj at *
  have eK2 := eL2 (999999999 - jj)
  rw [show 999999999 - jj+jj+1=999999999+1 by omega, BN] at eK2
  simp only [Q0] at eK2
  obtain ⟨sp5, lv5, ps5, hm5, hts5, TL5⟩ := M5.get
  have lps:ps5.length=k := by have := congrArg List.length hts5; rw [List.length_map, T5.l] at this; exact this
  obtain ⟨h6, n6, v6, ps6, e6, b6, b7, T6, m6, f6, r6⟩ := all_ok (m := 27) hm5 TL5 (by omega) (fun x hx => by
    have:x.1∈ts5 := by rw [←hts5]; exact List.mem_map_of_mem hx
    have := T5.f.s _ this; omega) (by omega)
  rw [show 27+3=30 from rfl] at e6
  rw [hts5] at m6
  have l6:ps6.length=k := by have := congrArg List.length m6; rw [List.length_map, T5.l] at this; exact this
  have TT := T6.tl [] (fun q hq => by cases hq)
  have hl6 := TT.1.len (by omega)
  rw [l6] at hl6
  have O6:(ps6.map fun x => x.1.id).Pairwise (· < ·) := by
    have:ps6.map (fun x => x.1.id)=(ps6.map Prod.fst).map Ten.id := by rw [List.map_map]; rfl
    rw [this, m6]; exact T5.f.o
  have eL3 := m3_loop (x0 := .int .i64 nn) (x1 := fv) (x3 := .ptr mp 0) (x4 := .int .i64 nn) (x5 := .int .i64 k) (x6 := .int .i64 i5) TT (by omega) (fun x hx => by
    have:x.1∈ts5 := by rw [←m6]; exact List.mem_map_of_mem hx
    exact (T5.f.g _ this).i) O6 (max 1 ps6.length - 1) 1 (Nat.le_refl _) (by omega) (999999999 - (max 1 ps6.length - 1))
  rw [show 999999999 - (max 1 ps6.length - 1)+(max 1 ps6.length - 1)+1=999999999+1 by omega, BN] at eL3
  simp only [Q0] at eL3
  generalize hR:Ak tab 31 ⟨.d0, .d0, .d7⟩ [.int .i64 nn, fv] AL WS=R0
  rw [call2_at, show B0 ⟨.d0, .d0, .d7⟩ tab=some x7 from rfl, x7_L, x7L] at hR
  simp (config := {maxSteps := 3000000}) (disch := omega) only [qa,g0,g1,g2,g3,g4,g5,g6,g7,g8,g9,Bb,B9,B7,Bd,Bq,Bi,Bt,Bk,Bl,Bp,w0,w1,w2,w3,w4,w5,w6,w7,w8,w9,Bc,Ba,B5,Bo,Be,Bm,Br,Bs,Bj,Bf,Mk,Nat.reduceAdd,Nat.reduceSub,Nat.reduceMul,Nat.reduceMod,Nat.reduceDiv,Q0,U,en1,e1,e2,e3,Cg,eK1,EN,EO,FF,FG,DJ,D9] at hR
  unfold mR1 at hR
  simp (config := {maxSteps := 3000000}) (disch := omega) only [qa,g0,g1,g2,g3,g4,g5,g6,g7,g8,g9,Bb,B9,B7,Bd,Bq,Bi,Bt,Bk,Bl,Bp,w0,w1,w2,w3,w4,w5,w6,w7,w8,w9,Bc,Ba,B5,Bo,Be,Bm,Br,Bs,Bj,Bf,Mk,Nat.reduceAdd,Nat.reduceSub,Nat.reduceMul,Nat.reduceMod,Nat.reduceDiv,Q0,U,hmin,Cg,eK2] at hR
  unfold mR2 at hR
  simp (config := {maxSteps := 3000000}) (disch := omega) only [qa,g0,g1,g2,g3,g4,g5,g6,g7,g8,g9,Bb,B9,B7,Bd,Bq,Bi,Bt,Bk,Bl,Bp,w0,w1,w2,w3,w4,w5,w6,w7,w8,w9,Bc,Ba,B5,Bo,Be,Bm,Br,Bs,Bj,Bf,Mk,Nat.reduceAdd,Nat.reduceSub,Nat.reduceMul,Nat.reduceMod,Nat.reduceDiv,Q0,U,e6,Cg,eL3] at hR
  unfold mR3 at hR
  simp (config := {maxSteps := 3000000}) (disch := omega) only [qa,g0,g1,g2,g3,g4,g5,g6,g7,g8,g9,Bb,B9,B7,Bd,Bq,Bi,Bt,Bk,Bl,Bp,w0,w1,w2,w3,w4,w5,w6,w7,w8,w9,Bc,Ba,B5,Bo,Be,Bm,Br,Bs,Bj,Bf,Mk,Nat.reduceAdd,Nat.reduceSub,Nat.reduceMul,Nat.reduceMod,Nat.reduceDiv,Q0,U,hl6] at hR
  rw [←hR]; rfl
theorem many_neg {nn:Nat} {fv:V} (h1:10<nn) (h2:nn<18446744073709551616):Se (Ak tab 31 ⟨.d0, .d0, .d7⟩ [.int .i64 nn, fv] AL WS)=true := by
  obtain ⟨h2', n2, f, mp, av, h1', n1, e1, _⟩ := mbegun
  generalize hR:Ak tab 31 ⟨.d0, .d0, .d7⟩ [.int .i64 nn, fv] AL WS=R0
  rw [call2_at, show B0 ⟨.d0, .d0, .d7⟩ tab=some x7 from rfl, x7_L, x7L] at hR
  rcases Nat.lt_or_ge nn 9223372036854775808 with h | h
  · simp (config := {maxSteps := 3000000}) (disch := omega) only [qa,g0,g1,g2,g3,g4,g5,g6,g7,g8,g9,Bb,B9,B7,Bd,Bq,Bi,Bt,Bk,Bl,Bp,w0,w1,w2,w3,w4,w5,w6,w7,w8,w9,Bc,Ba,B5,Bo,Be,Bm,Br,Bs,Bj,Bf,Mk,Nat.reduceAdd,Nat.reduceSub,Nat.reduceMul,Nat.reduceMod,Nat.reduceDiv,Q0,U,en1,e1,EN,EO,FF,FG,DJ,D9] at hR
    rw [←hR]; rfl
  · simp (config := {maxSteps := 3000000}) (disch := omega) only [qa,g0,g1,g2,g3,g4,g5,g6,g7,g8,g9,Bb,B9,B7,Bd,Bq,Bi,Bt,Bk,Bl,Bp,w0,w1,w2,w3,w4,w5,w6,w7,w8,w9,Bc,Ba,B5,Bo,Be,Bm,Br,Bs,Bj,Bf,Mk,Nat.reduceAdd,Nat.reduceSub,Nat.reduceMul,Nat.reduceMod,Nat.reduceDiv,Q0,U,en1,e1,EN,EO,FF,FG,DJ,D9] at hR
    rw [←hR]; rfl
end Go.Ev.Ytdgefeadbcbglaa
