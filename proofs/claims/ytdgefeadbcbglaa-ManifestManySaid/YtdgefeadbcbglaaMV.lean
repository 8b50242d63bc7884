/- What the functions do, as equations over their texts, 1. -/
import Derived.Test.YtdgefeadbcbglaaMK
import Derived.KernelRfl
namespace Go.Ev.Ytdgefeadbcbglaa
open Go Go.Ev
set_option linter.unusedVariables false
set_option linter.unusedSimpArgs false
/-- Bytes of one's own somewhere else. -/
def At (h:Heap) (n:K4) (av:List K4) (v:V) (l:List UInt8):Prop := (v = .nil .sl∧l=[]) ∨ ∃ p ex, v = .sl p 0 l.length l.length ex 1∧A8 p h=some (.c (cb l) false none)∧p.toN<n.toN ∧ ∀ q∈av, p≠q
theorem At.frame {h h':Heap} {n n':K4} {av av':List K4} {v:V} {l:List UInt8} (H:At h n av v l) (hn:n.toN≤n'.toN) (e:∀ p:K4, p.toN<n.toN->(∀ q∈av, p≠q)->A8 p h'=A8 p h ∧ ∀ q∈av', p≠q):At h' n' av' v l := by
  rcases H with H | ⟨p, ex, h1, h2, h3, h4⟩
  · exact .inl H
  · exact .inr ⟨p, ex, h1, ((e p h3 h4).1).trans h2, by omega, (e p h3 h4).2⟩
theorem At.src {h:Heap} {n:K4} {av:List K4} {v:V} {l:List UInt8} (H:At h n av v l):E1 v l h := by
  rcases H with H | ⟨p, ex, rfl, h2, _⟩
  · exact .inr (.inl H)
  · exact .inr (.inr ⟨p, 0, l.length, ex, l, false, none, rfl, h2, by omega, by rw [List.drop_zero, List.take_length]⟩)
/-- A clone of bytes of any kind. -/
def ClO (m:Nat) (h:Heap) (n:K4) (v:V) (l:List UInt8) (av:List K4):Prop := ∃ h' n' v', Ak tab (m+1) ⟨.d0, .d3, .d7⟩ [v] h n = .rv v' h' n'∧n.toN≤n'.toN∧n'.toN≤n.toN+2∧At h' n' av v' l∧(∀ q:K4, q.toN<n.toN->A8 q h'=A8 q h)∧(Al h n->Al h' n')∧(v' = .nil .sl ∨ ∃ p a ex, v' = .sl p 0 a a ex 1)
theorem clone_by {m:Nat} {h:Heap} {n:K4} {v:V} {l:List UInt8} (hL:l.length≤1000000000) (hn:n.toN<63000) (av:List K4) (hav:∀ q∈av, q.toN<n.toN) (hy:∀ κ:Nat->Cs->R, Gp 1 v (Ac n h (some (.c (.b 0 0) false none))) κ=κ l.length (cb l)) (hnn:∀ κ:V->R, E2 false (.rf .sl) v (.nil .sl) κ=κ (.bool false)):ClO m h n v l av := by
  have u1 := K4.up_toN (p := n) (by omega)
  obtain ⟨h', n', v', p', e1, b1, b2, o1, c1, c2, g1', g2', w1'⟩ := app_empty (l := l) (n := n) (h := Ac n h (some (.c (.b 0 0) false none))) (by omega) (by omega) (A7 _ _ _)
  refine ⟨h', n', v', ?_, by omega, b2, ?_, fun q hq => (g1' q (by omega)).trans (Aj hq _ _), fun hf q hq => (g2' q hq).trans ((Aq (by omega) _ _).trans (hf q (by omega))), .inr ⟨p', _, _, w1'⟩⟩
  · rw [call2_at, show B0 ⟨.d0, .d3, .d7⟩ tab=some x55 from rfl, x55]
    simp (disch := omega) only [qa,g0,g1,g2,g3,g4,g5,g6,g7,g8,g9,Bb,B9,B7,Bd,Bq,Bi,Bt,Bk,Bl,Bp,w0,w1,w2,w3,w4,w5,w6,w7,w8,w9,Bc,Ba,B5,Bo,Be,Bm,Br,Bs,Bj,Bf,Mk,Nat.reduceAdd,Nat.reduceSub,Nat.reduceMul,Nat.reduceMod,Nat.reduceDiv,Q0,U,en3,q_appS,hnn,hy,e1]
  · rcases o1 with ⟨rfl, rfl⟩ | ⟨ex, rfl, h2⟩
    · exact .inl ⟨rfl, rfl⟩
    · exact .inr ⟨p', ex, rfl, h2, c2, fun q hq => (K4.ne_of_lt (by have := hav q hq; omega)).symm⟩
theorem clone_src {m:Nat} {h:Heap} {n:K4} {v:V} {l:List UInt8} (H:E1 v l h) (hp:∀ p:K4, (∃ off cap ex, v = .sl p off l.length cap ex 1)->p.toN<n.toN) (hL:l.length≤1000000000) (hn:n.toN<63000) (av:List K4) (hav:∀ q∈av, q.toN<n.toN):ClO m h n v l av := by
  rcases H with rfl | ⟨rfl, rfl⟩ | ⟨p, off, cap, ex, L, sp, pr, rfl, h1, h2, h3⟩
  · exact clone_by hL hn av hav (fun κ => rfl) (fun κ => Qn false _ _ κ)
  · exact ⟨h, n, .nil .sl, clone_nil, by omega, by omega, .inl ⟨rfl, rfl⟩, fun q _ => rfl, fun h => h, .inl rfl⟩
  · exact clone_by hL hn av hav (fun κ => by rw [YA ((Aj (hp p ⟨off, cap, ex, rfl⟩) _ _).trans h1) h2, h3]) (fun κ => LD false _ _ _ _ _ _ κ)
theorem same_str (a c:Nat) (κ:R):BU (.str a c) (.str a c) κ=κ := by
  show br (EC a c a c) κ _=κ
  rw [L8]; simp only [decide_true,and_self,Bool.and_self,Ad]
/-- A slots file's record. -/
abbrev spC (f:K4) (tv:V) (turn cur nxt:Nat):List V := [.ptr f 0, .str 3 5128525, tv, .int .u64 turn, .int .i64 cur, .int .u64 nxt]
/-- A disk with one file, and a slots file on it. -/
structure SS (h:Heap) (n f d x dm pc lm sp:K4) (room rd calls fl b k:Nat) (bs ys:List UInt8) (cv sv tv:V) (cur turn nxt:Nat) (text:List UInt8):Prop where
  hf:A8 f h=some (.c (.l (fsC room rd calls fl (.map d) (.map lm) (.nil .sl))) false none)
  hd:A8 d h=some (.m [(.str 3 5128525, .ptr x 0)] [b] k)
  hb:b<k
  hl:A8 lm h=some (.m [(.str 3 5128525, .ptr x 0)] [b] k)
  hx:A8 x h=some (.c (.l [cv, sv, .map dm]) false none)
  hm:∃ es ds dk, A8 dm h=some (.m es ds dk)∧IK es
  own:Lf pc h cv bs
  oy:At h n [f, d, x, dm, pc, lm, sp] sv ys
  hs:A8 sp h=some (.c (.l (spC f tv turn cur nxt)) false none)
  ot:At h n [f, d, x, dm, pc, lm, sp] tv text
  fr:Al h n
  nd:[f, d, x, dm, pc, lm, sp].Pairwise (· ≠ ·)
  lt:∀ q∈[f, d, x, dm, pc, lm, sp], q.toN<n.toN
theorem save_ok {m:Nat} {h:Heap} {n f d x dm pc lm sp:K4} {room rd calls fl fl1 fl2 b k cur turn nxt:Nat} {bs ys text l:List UInt8} {cv sv tv v:V} (D:SS h n f d x dm pc lm sp room rd calls fl b k bs ys cv sv tv cur turn nxt text)
    (b1:Bg fl fl1) (b2:Bg fl1 fl2) (hv:E1 v l h) (hvp:∀ p:K4, (∃ off cap ex, v = .sl p off l.length cap ex 1)->p.toN<n.toN ∧ ∀ q∈[f, d, x, dm, pc, lm, sp], p≠q) (hl:l.length≤4080) (hnx:nxt<1000000) (hcur:cur≤1) (hbs:bs.length=8192)
    (hr1:8192≤room) (hr2:room≤4194304) (hc:calls<900000) (hn:n.toN<56000) :
    ∃ h' n' dm' sv' tv', Ak tab (m+12) ⟨.d0, .d2, .d1⟩ [.ptr sp 0, v] h n = .rv (.int .i64 0) h' n'∧n.toN≤n'.toN∧n'.toN≤n.toN+80∧(∀ q:K4, q.toN<n.toN->(∀ r∈[f, d, x, dm, pc, lm, sp], q≠r)->A8 q h'=A8 q h) ∧
      SS h' n' f d x dm' pc lm sp room rd (calls+2) fl2 b k (bs.take ((1 - cur)*4096)++(slotL (nxt+1) l++bs.drop ((1 - cur)*4096+(slotL (nxt+1) l).length))) (bs.take ((1 - cur)*4096)++(slotL (nxt+1) l++bs.drop ((1 - cur)*4096+(slotL (nxt+1) l).length))) cv sv' tv' (1 - cur) (nxt+1) (nxt+1) l∧A8 dm' h'=some (.m [] [] 0)∧n.toN≤dm'.toN := by
  have ⟨lf, ld, lx, lm', lp, ll, ls⟩:f.toN<n.toN∧d.toN<n.toN∧x.toN<n.toN∧dm.toN<n.toN∧pc.toN<n.toN∧lm.toN<n.toN∧sp.toN<n.toN := ⟨D.lt f (by simp), D.lt d (by simp), D.lt x (by simp), D.lt dm (by simp), D.lt pc (by simp), D.lt lm (by simp), D.lt sp (by simp)⟩
  have nd := D.nd
  simp only [List.pairwise_cons,List.mem_cons,List.not_mem_nil,or_false,forall_eq_or_imp,forall_eq,List.Pairwise.nil,and_true,false_implies,implies_true] at nd
  obtain ⟨⟨nfd, nfx, nfm, nfp, nfl, nfs⟩, ⟨ndx, ndm, ndp, ndl, nds⟩, ⟨nxm, nxp, nxl, nxs⟩, ⟨nmp, nml, nms⟩, ⟨npl, nps⟩, nls⟩ := nd
  obtain ⟨es, ds, dk, hm, ik⟩ := D.hm
  -- the counter
  generalize hA:Ac sp h (some (.c (.l (spC f tv turn cur (nxt+1))) false none))=A
  have aS:A8 sp A=some (.c (.l (spC f tv turn cur (nxt+1))) false none) := by rw [←hA, A7]
  have aO:∀ q:K4, q≠sp->A8 q A=A8 q h := fun q hq => by rw [←hA]; exact A6 _ _ (Ne.symm hq)
  have aF:Al A n := fun q hq => (aO q (K4.ne_of_lt (by omega)).symm).trans (D.fr q hq)
  have hvA:E1 v l A := hv.frame fun p hp => aO p ((hvp p hp).2 sp (by simp))
  -- the slot's bytes
  obtain ⟨c1, h1, n1, e1, o1, a1, a2, f1, r1⟩ := slot_ok (m := m+8) (turn := nxt+1) (n := n) (by omega) hvA (fun p hp => (hvp p hp).1) (by omega) (by omega)
  have hsl:(slotL (nxt+1) l).length=16+l.length := slotL_len _ _
  have hc1:∀ p:K4, (∃ off cap ex, c1 = .sl p off (slotL (nxt+1) l).length cap ex 1)->n.toN≤p.toN∧p.toN<n1.toN := by
    rintro p ⟨off, cap, ex, e⟩
    rcases o1 with ⟨h, _⟩ | ⟨p', ex', pr, h, _, q1, q2, _⟩
    · rw [h] at e; cases e
    · rw [h] at e; cases e; exact ⟨q1, q2⟩
  -- it is written
  have W := write_in (m := m) (n := n1) (off := (1 - cur)*4096) b1 (by omega) ((f1 f lf).trans ((aO f nfs).trans D.hf)) ((f1 d ld).trans ((aO d nds).trans D.hd)) D.hb ((f1 x lx).trans ((aO x nxs).trans D.hx)) ((f1 dm lm').trans ((aO dm nms).trans hm)) ik
    (D.own.frame ((f1 pc lp).trans (aO pc nps))) o1.src hr2 (by omega) (by rw [hsl, hbs]; rcases (by omega:cur=0∨cur=1) with rfl | rfl <;> omega) (by omega) (by omega) nfd.symm (by omega) nfx (by omega) nxm.symm nfm (by omega) nfp.symm nxp.symm nmp.symm (by omega)
    (fun p hp => by obtain ⟨q1, q2⟩ := hc1 p hp; exact ⟨q2, (K4.ne_of_lt (by omega)).symm, (K4.ne_of_lt (by omega)).symm, (K4.ne_of_lt (by omega)).symm, (K4.ne_of_lt (by omega)).symm⟩)
  obtain ⟨h2, n2, e2, a3, a4, r2, f2, y2, m2, o2⟩ := W
  have x2 := (f2 x (by omega) nfx.symm nxm nxp).trans ((f1 x lx).trans ((aO x nxs).trans D.hx))
  have d2 := (f2 d (by omega) nfd.symm ndm ndp).trans ((f1 d ld).trans ((aO d nds).trans D.hd))
  -- and synced
  obtain ⟨h3, n3, dm', sv', ps', e3, a5, a6, r3, f3, y3, x3, c3, c3', m3, ow3, q3, q3'⟩ := sync_ok (m := m+8) (n := n2) b2 (by omega) y2 d2 x2 o2 (by rw [Ki (by rw [hsl, hbs]; rcases (by omega:cur=0∨cur=1) with rfl | rfl <;> omega), hbs]; omega) (by omega) (by omega) nfd.symm (by omega) nfx (by omega) nfp.symm nxp.symm (by omega)
  have k3:∀ q:K4, q.toN<n.toN->q≠sp->q≠f->q≠dm->q≠pc->q≠x->A8 q h3=A8 q h := fun q h1 h2 h3 h4 h5 h6 => by
    rw [f3 q (by omega) h3 h6, f2 q (by omega) h3 h4 h5, f1 q h1, aO q h2]
  -- the text's clone
  have hv3:E1 v l h3 := hv.frame fun p hp => by
    obtain ⟨q1, q2⟩ := hvp p hp
    exact k3 p q1 (q2 sp (by simp)) (q2 f (by simp)) (q2 dm (by simp)) (q2 pc (by simp)) (q2 x (by simp))
  obtain ⟨h4, n4, tv', e4, a7, a8, t4, f4, r4, w4'⟩ := clone_src (m := m+10) (n := n3) hv3 (fun p hp => by have := (hvp p hp).1; omega) (by omega) (by omega) [f, d, x, dm', pc, lm, sp] (fun q hq => by
    simp only [List.mem_cons,List.not_mem_nil,or_false] at hq
    rcases hq with rfl | rfl | rfl | rfl | rfl | rfl | rfl <;> omega)
  have s3:A8 sp h3=some (.c (.l (spC f tv turn cur (nxt+1))) false none) := by rw [f3 sp (by omega) nfs.symm nxs.symm, f2 sp (by omega) nfs.symm nms.symm nps.symm, f1 sp ls, aS]
  have s4 := (f4 sp (by omega)).trans s3
  have s2:A8 sp h2=some (.c (.l (spC f tv turn cur (nxt+1))) false none) := by rw [f2 sp (by omega) nfs.symm nms.symm nps.symm, f1 sp ls, aS]
  have s1 := (f1 sp ls).trans aS
  have el := hv.len (by omega)
  have hmul:((1 - cur)*4096) % 18446744073709551616=(1 - cur)*4096 := Nat.mod_eq_of_lt (by omega)
  generalize hR:Ak tab (m+12) ⟨.d0, .d2, .d1⟩ [.ptr sp 0, v] h n=R0
  rw [call2_at, show B0 ⟨.d0, .d2, .d1⟩ tab=some x33 from rfl, x33] at hR
  simp (config := {maxSteps := 3000000}) (disch := omega) only [qa,g0,g1,g2,g3,g4,g5,g6,g7,g8,g9,Bb,B9,B7,Bd,Bq,Bi,Bt,Bk,Bl,Bp,w0,w1,w2,w3,w4,w5,w6,w7,w8,w9,Bc,Ba,B5,Bo,Be,Bm,Br,Bs,Bj,Bf,Mk,Nat.reduceAdd,Nat.reduceSub,Nat.reduceMul,Nat.reduceMod,Nat.reduceDiv,Q0,U,en1,el,D.hs,hA,hmul] at hR
  have sT:∀ (p:K4) (off:Nat) (h:Heap) (κ:Heap->R), BQ (.ptr p off) tv' h κ=TS (A8 p h) h p off tv' κ := by
    rcases w4' with rfl | ⟨_, _, _, rfl⟩
    · exact fun p off h κ => Oc _ _ _ _ _
    · exact fun p off h κ => Sg _ _ _ _ _ _ _ _ _ _
  rw [show m+8+3=m+11 from rfl] at e1 e3
  rw [show m+10+1=m+11 from rfl] at e4
  simp (config := {maxSteps := 3000000}) (disch := omega) only [qa,g0,g1,g2,g3,g4,g5,g6,g7,g8,g9,Bb,B9,B7,Bd,Bq,Bi,Bt,Bk,Bl,Bp,w0,w1,w2,w3,w4,w5,w6,w7,w8,w9,Bc,Ba,B5,Bo,Be,Bm,Br,Bs,Bj,Bf,Mk,Nat.reduceAdd,Nat.reduceSub,Nat.reduceMul,Nat.reduceMod,Nat.reduceDiv,Q0,U,aS,s1,s2,s3,s4,e1,e2,e3,e4,hmul,YF,same_str,QI,sT] at hR
  subst hR
  have hps:sv' = .nil .sl∨n2.toN≤ps'.toN∧ps'.toN<n3.toN := q3'.2
  have ne7:∀ q:K4, (∀ r∈[f, d, x, dm, pc, lm, sp], q≠r)->q≠f∧q≠x∧q≠dm∧q≠pc∧q≠sp := fun q hq => ⟨hq f (by simp), hq x (by simp), hq dm (by simp), hq pc (by simp), hq sp (by simp)⟩
  have lo:∀ q:K4, n2.toN≤q.toN->∀ r∈[f, d, x, pc, lm, sp], q≠r := fun q hq r hr => by
    simp only [List.mem_cons,List.not_mem_nil,or_false] at hr
    rcases hr with rfl | rfl | rfl | rfl | rfl | rfl <;> exact (K4.ne_of_lt (by omega)).symm
  refine ⟨_, n4, dm', sv', tv', rfl, by omega, by omega, fun q hq hr => ?_, ?_, by rw [A6 _ _ (lo dm' c3 sp (by simp)).symm, f4 dm' (by omega)]; exact m3, by omega⟩
  · obtain ⟨q1, q2, q3, q4, q5⟩ := ne7 q hr
    rw [A6 _ _ (Ne.symm q5), f4 q (by omega), k3 q hq q5 q1 q3 q4 q2]
  · refine ⟨?_, ?_, D.hb, ?_, ?_, ⟨[], [], 0, ?_, IK.nil⟩, ?_, ?_, A7 _ _ _, ?_, ?_, ?_, ?_⟩
    · rw [A6 _ _ nfs.symm, f4 f (by omega)]; exact y3
    · rw [A6 _ _ nds.symm, f4 d (by omega), f3 d (by omega) nfd.symm ndx]; exact d2
    · rw [A6 _ _ nls.symm, f4 lm (by omega), k3 lm ll nls nfl.symm nml.symm npl.symm nxl.symm]; exact D.hl
    · rw [A6 _ _ nxs.symm, f4 x (by omega)]; exact x3
    · rw [A6 _ _ (lo dm' c3 sp (by simp)).symm, f4 dm' (by omega)]; exact m3
    · exact o2.frame (by rw [A6 _ _ nps.symm, f4 pc (by omega), f3 pc (by omega) nfp.symm nxp.symm])
    · rcases hps with rfl | ⟨q1, q2⟩
      · rcases ow3 with ow3 | ⟨ex, e, _⟩
        · exact .inl ow3
        · cases e
      · rcases ow3 with ow3 | ⟨ex, e, g⟩
        · exact .inl ow3
        · refine .inr ⟨ps', ex, e, ?_, by omega, fun r hr => ?_⟩
          · rw [A6 _ _ (lo ps' q1 sp (by simp)).symm, f4 ps' (by omega)]; exact g
          · simp only [List.mem_cons,List.not_mem_nil,or_false] at hr
            rcases hr with rfl | rfl | rfl | rfl | rfl | rfl | rfl
            · exact lo ps' q1 _ (by simp)
            · exact lo ps' q1 _ (by simp)
            · exact lo ps' q1 _ (by simp)
            · exact q3'.1
            · exact lo ps' q1 _ (by simp)
            · exact lo ps' q1 _ (by simp)
            · exact lo ps' q1 _ (by simp)
    · exact t4.frame (Nat.le_refl _) fun p hp hr => ⟨A6 _ _ (hr sp (by simp)).symm, hr⟩
    · intro q hq
      rw [Aq (by omega)]
      exact r4 (r3 (r2 (r1 aF))) q hq
    · simp only [List.pairwise_cons,List.mem_cons,List.not_mem_nil,or_false,forall_eq_or_imp,forall_eq,List.Pairwise.nil,and_true,false_implies,implies_true]
      exact ⟨⟨nfd, nfx, (lo dm' c3 f (by simp)).symm, nfp, nfl, nfs⟩, ⟨ndx, (lo dm' c3 d (by simp)).symm, ndp, ndl, nds⟩, ⟨(lo dm' c3 x (by simp)).symm, nxp, nxl, nxs⟩, ⟨lo dm' c3 pc (by simp), lo dm' c3 lm (by simp), lo dm' c3 sp (by simp)⟩, ⟨npl, nps⟩, nls⟩
    · intro q hq
      simp only [List.mem_cons,List.not_mem_nil,or_false] at hq
      rcases hq with rfl | rfl | rfl | rfl | rfl | rfl | rfl <;> omega
theorem may_A {m:Nat} {h:Heap} {n:K4}:Ak tab (m+1) ⟨.d0, .d3, .d3⟩ [.str 3 5128525] h n = .rv (.bool true) h n := by kernel_rfl
theorem may_N {m:Nat} {h:Heap} {n:K4}:Ak tab (m+1) ⟨.d0, .d3, .d3⟩ [.str 3 5719374] h n = .rv (.bool true) h n := by kernel_rfl
theorem size_none {m:Nat} {f d:K4} {h:Heap} {n:K4} {a c room rd calls fl:Nat} {lw w:V} (hf:A8 f h=some (.c (.l (fsC room rd calls fl (.map d) lw w)) false none)) (hd:A8 d h=some (.m [] [] 0)) :
    Ak tab (m+1) ⟨.d0, .d2, .d5⟩ [.ptr f 0, .str a c] h n = .rv (.int .i64 18446744073709551615) h n := by
  rw [call2_at, show B0 ⟨.d0, .d2, .d5⟩ tab=some x37 from rfl, x37]
  simp (disch := omega) only [qa,g0,g1,g2,g3,g4,g5,g6,g7,g8,g9,Bb,B9,B7,Bd,Bq,Bi,Bt,Bk,Bl,Bp,w0,w1,w2,w3,w4,w5,w6,w7,w8,w9,Bc,Ba,B5,Bo,Be,Bm,Br,Bs,Bj,Bf,Mk,Nat.reduceAdd,Nat.reduceSub,Nat.reduceMul,Nat.reduceMod,Nat.reduceDiv,Q0,U,en1,hf,hd]
theorem bA0 (κ:V->R):CR (.str 3 5128525) (.str 0 0) κ=κ (.bool false) := by kernel_rfl
theorem bAN (κ:V->R):BY (.str 3 5128525) (.str 3 5719374) κ=κ (.bool true) := by kernel_rfl
/-- A second record behind the first one. -/
theorem app_3 {p:K4} {h:Heap} {a b c d e f:V} (hp:A8 p h=some (.c (.l [a, b, c]) false none)) {n:K4} (hn:n.toN<65000) (κ:KV) :
    BK 3 40 (.sl p 0 1 1 false 3) 1 (.l [d, e, f]) h n κ=κ (.sl n 0 2 2 false 3) (Ac n (Ac p h (some (.c (.l [a, b, c]) true none))) (some (.c (.l [a, b, c, d, e, f]) false (some p)))) n.up := by
  show KG p h (fun cs sup prev => Aa (Nat.mul 1 3) fun l => AW cs 0 l fun a => NU a (.l [d, e, f]) fun z => br sup (.fail "") (Aa (Nat.add 0 l) fun j => AW cs 0 j fun old => Gk prev h fun h => Ef p h (some (.c old true none)) fun h => DQ h n (.c z false (some p)) fun h' n' => κ (.sl n 0 2 2 false 3) h' n'))=_
  rw [E4, GM hp, A9]
  show br false (.fail "") (Aa (Nat.add 0 (Nat.mul 1 3)) fun j => AW (.l [a, b, c]) 0 j fun old => Gk none h fun h => Ef p h (some (.c old true none)) fun h => DQ h n (.c (.l [a, b, c, d, e, f]) false (some p)) fun h' n' => κ (.sl n 0 2 2 false 3) h' n')=_
  rw [Ao, A9]
  show Gk none h (fun h => Ef p h (some (.c (.l [a, b, c]) true none)) fun h => DQ h n (.c (.l [a, b, c, d, e, f]) false (some p)) fun h' n' => κ (.sl n 0 2 2 false 3) h' n')=_
  rw [EP, AU, DH (by omega)]; rfl
theorem do_ren {m:Nat} {d x:K4} {h:Heap} {n:K4} {b k:Nat} (hd:A8 d h=some (.m [(.str 3 5719374, .ptr x 0)] [b] k)) (hdn:d.toN<n.toN) (hn:n.toN<60000) :
    Ak tab (m+1) ⟨.d0, .d3, .d9⟩ [.map d, .agg [.str 3 5719374, .str 3 5128525, .nil .ptr]] h n = .rv (.tup []) (Ac d (Ac n h (some (.c (.l [.str 3 5719374, .str 3 5128525, .nil .ptr]) false none))) (some (.m [(.str 3 5128525, .ptr x 0)] [k] (k+1)))) n.up := by
  rw [call2_at, show B0 ⟨.d0, .d3, .d9⟩ tab=some x57 from rfl, x57]
  simp (config := {maxSteps := 3000000}) (disch := omega) only [qa,g0,g1,g2,g3,g4,g5,g6,g7,g8,g9,Bb,B9,B7,Bd,Bq,Bi,Bt,Bk,Bl,Bp,w0,w1,w2,w3,w4,w5,w6,w7,w8,w9,Bc,Ba,B5,Bo,Be,Bm,Br,Bs,Bj,Bf,Mk,Nat.reduceAdd,Nat.reduceSub,Nat.reduceMul,Nat.reduceMod,Nat.reduceDiv,Q0,U,en1,hd,bA0,bAN]
theorem change_ren {m:Nat} {f d x pw:K4} {h:Heap} {n:K4} {b k room rd calls fl:Nat} {l r1 r2 r3:V} (hf:A8 f h=some (.c (.l (fsC room rd calls fl (.map d) l (.sl pw 0 1 1 false 3))) false none)) (hd:A8 d h=some (.m [(.str 3 5719374, .ptr x 0)] [b] k)) (hw:A8 pw h=some (.c (.l [r1, r2, r3]) false none)) (hfr:Al h n)
    (hfn:f.toN<n.toN) (hdn:d.toN<n.toN) (ndf:d≠f) (hpn:pw.toN<n.toN) (npf:pw≠f) (npd:pw≠d) (hn:n.toN<58000) :
    ∃ h' n' wv, Ak tab (m+2) ⟨.d0, .d3, .d4⟩ [.ptr f 0, .agg [.str 3 5719374, .str 3 5128525, .nil .ptr]] h n = .rv (.int .i64 0) h' n'∧n.toN≤n'.toN∧n'.toN≤n.toN+60∧Al h' n'∧(∀ q:K4, q.toN<n.toN->q≠f->q≠d->q≠pw->A8 q h'=A8 q h) ∧
      A8 d h'=some (.m [(.str 3 5128525, .ptr x 0)] [k] (k+1))∧A8 f h'=some (.c (.l (fsC room rd calls fl (.map d) l wv)) false none) := by
  have u1 := K4.up_toN (p := n) (by omega)
  have u2 := K4.up_toN (p := n.up) (by omega)
  have v1 := K4.up16_toN (p := n.up.up) (by omega)
  have v2 := K4.up16_toN (p := n.up.up.up16) (by omega)
  have v3 := K4.pl_toN (p := n.up.up) (by omega) .d0
  have u3 := K4.up_toN (p := n.up.up.up16.up16) (by omega)
  have d0:D.d0.toN=0 := rfl
  rw [d0] at v3
  generalize hR:Ak tab (m+2) ⟨.d0, .d3, .d4⟩ [.ptr f 0, .agg [.str 3 5719374, .str 3 5128525, .nil .ptr]] h n=R0
  rw [call2_at, show B0 ⟨.d0, .d3, .d4⟩ tab=some x52 from rfl, x52] at hR
  simp (disch := omega) only [qa,g0,g1,g2,g3,g4,g5,g6,g7,g8,g9,Bb,B9,B7,Bd,Bq,Bi,Bt,Bk,Bl,Bp,w0,w1,w2,w3,w4,w5,w6,w7,w8,w9,Bc,Ba,B5,Bo,Be,Bm,Br,Bs,Bj,Bf,Mk,Nat.reduceAdd,Nat.reduceSub,Nat.reduceMul,Nat.reduceMod,Nat.reduceDiv,Q0,U,en1,hf] at hR
  have e1 := do_ren (m := m) (d := d) (x := x) (h := Ac n h (some (.c (.l [.str 3 5719374, .str 3 5128525, .nil .ptr]) false none))) (n := n.up) (b := b) (k := k) ((Aj hdn _ _).trans hd) (by omega) (by omega)
  rw [e1] at hR
  have h1:∀ y z:Option Ob, A8 (n.up.up.up16.pl .d0) (Ac d (Ac n.up (Ac n h y) z) (some (.m [(.str 3 5128525, .ptr x 0)] [k] (k+1))))=none := fun y z => by
    simp (disch := omega) only [Aq]; exact hfr _ (by omega)
  have hf1:∀ y z u:Option Ob, A8 f (Ac d (Ac n.up (Ac n h y) z) u)=some (.c (.l (fsC room rd calls fl (.map d) l (.sl pw 0 1 1 false 3))) false none) := fun y z u => by
    rw [A6 _ _ ndf]; simp (disch := omega) only [Aj]; exact hf
  simp (disch := omega) only [qa,g0,g1,g2,g3,g4,g5,g6,g7,g8,g9,Bb,B9,B7,Bd,Bq,Bi,Bt,Bk,Bl,Bp,w0,w1,w2,w3,w4,w5,w6,w7,w8,w9,Bc,Ba,B5,Bo,Be,Bm,Br,Bs,Bj,Bf,Mk,Nat.reduceAdd,Nat.reduceSub,Nat.reduceMul,Nat.reduceMod,Nat.reduceDiv,Q0,U,hf1,h1] at hR
  have hw1:∀ y z u v:Option Ob, A8 pw (Ac (n.up.up.up16.pl .d0) (Ac d (Ac n.up (Ac n h y) z) u) v)=some (.c (.l [r1, r2, r3]) false none) := fun y z u v => by
    rw [Aj (by omega), A6 _ _ npd.symm]; simp (disch := omega) only [Aj]; exact hw
  rw [app_3 (hw1 _ _ _ _) (by omega)] at hR
  have hf2:∀ y z u v w t:Option Ob, A8 f (Ac n.up.up.up16.up16 (Ac pw (Ac (n.up.up.up16.pl .d0) (Ac d (Ac n.up (Ac n h y) z) u) v) w) t)=some (.c (.l (fsC room rd calls fl (.map d) l (.sl pw 0 1 1 false 3))) false none) := fun y z u v w t => by
    rw [Aj (by omega), A6 _ _ npf, Aj (by omega)]; exact hf1 _ _ _
  simp (disch := omega) only [qa,g0,g1,g2,g3,g4,g5,g6,g7,g8,g9,Bb,B9,B7,Bd,Bq,Bi,Bt,Bk,Bl,Bp,w0,w1,w2,w3,w4,w5,w6,w7,w8,w9,Bc,Ba,B5,Bo,Be,Bm,Br,Bs,Bj,Bf,Mk,Nat.reduceAdd,Nat.reduceSub,Nat.reduceMul,Nat.reduceMod,Nat.reduceDiv,Q0,U,hf2] at hR
  subst hR
  refine ⟨_, _, _, rfl, by omega, by omega, fun q hq => ?_, fun q hq h2 h3 h4 => ?_, ?_, A7 _ _ _⟩
  · simp (disch := omega) only [Aq]; exact hfr q (by omega)
  · rw [A6 _ _ (Ne.symm h2), Aj (by omega), A6 _ _ (Ne.symm h4), Aj (by omega), A6 _ _ (Ne.symm h3)]
    simp (disch := omega) only [Aj]
  · rw [A6 _ _ ndf.symm, Aj (by omega), A6 _ _ npd, Aj (by omega), A7]
theorem rename_ok {m:Nat} {f d x pw:K4} {h:Heap} {n:K4} {b k room rd calls fl fl':Nat} {l r1 r2 r3:V} (hbg:Bg fl fl') (hc:calls<1000000) (hf:A8 f h=some (.c (.l (fsC room rd calls fl (.map d) l (.sl pw 0 1 1 false 3))) false none)) (hd:A8 d h=some (.m [(.str 3 5719374, .ptr x 0)] [b] k)) (hw:A8 pw h=some (.c (.l [r1, r2, r3]) false none)) (hfr:Al h n)
    (hfn:f.toN<n.toN) (hdn:d.toN<n.toN) (ndf:d≠f) (hpn:pw.toN<n.toN) (npf:pw≠f) (npd:pw≠d) (hn:n.toN<58000) :
    ∃ h' n' wv, Ak tab (m+4) ⟨.d0, .d4, .d0⟩ [.ptr f 0, .str 3 5719374, .str 3 5128525] h n = .rv (.int .i64 0) h' n'∧n.toN≤n'.toN∧n'.toN≤n.toN+60∧Al h' n'∧(∀ q:K4, q.toN<n.toN->q≠f->q≠d->q≠pw->A8 q h'=A8 q h) ∧
      A8 d h'=some (.m [(.str 3 5128525, .ptr x 0)] [k] (k+1))∧A8 f h'=some (.c (.l (fsC room rd (calls+1) fl' (.map d) l wv)) false none) := by
  have hd1:A8 d (Ac f h (some (.c (.l (fsC room rd (calls+1) fl' (.map d) l (.sl pw 0 1 1 false 3))) false none)))=some (.m [(.str 3 5719374, .ptr x 0)] [b] k) := (A6 _ _ ndf.symm).trans hd
  obtain ⟨h', n', wv, e1, b1, b1', f1, o1, d1, y1⟩ := change_ren (m := m+1) (n := n) (A7 f h _) hd1 ((A6 _ _ npf.symm).trans hw) (fun q hq => (A6 _ _ (K4.ne_of_lt (by omega))).trans (hfr q hq)) hfn hdn ndf hpn npf npd hn
  generalize hR:Ak tab (m+4) ⟨.d0, .d4, .d0⟩ [.ptr f 0, .str 3 5719374, .str 3 5128525] h n=R0
  rw [call2_at, show B0 ⟨.d0, .d4, .d0⟩ tab=some x64 from rfl, x64] at hR
  simp (config := {maxSteps := 3000000}) (disch := omega) only [qa,g0,g1,g2,g3,g4,g5,g6,g7,g8,g9,Bb,B9,B7,Bd,Bq,Bi,Bt,Bk,Bl,Bp,w0,w1,w2,w3,w4,w5,w6,w7,w8,w9,Bc,Ba,B5,Bo,Be,Bm,Br,Bs,Bj,Bf,Mk,Nat.reduceAdd,Nat.reduceSub,Nat.reduceMul,Nat.reduceMod,Nat.reduceDiv,Q0,U,en0] at hR
  rw [begin_bg hbg hf hc] at hR
  simp (config := {maxSteps := 3000000}) (disch := omega) only [qa,g0,g1,g2,g3,g4,g5,g6,g7,g8,g9,Bb,B9,B7,Bd,Bq,Bi,Bt,Bk,Bl,Bp,w0,w1,w2,w3,w4,w5,w6,w7,w8,w9,Bc,Ba,B5,Bo,Be,Bm,Br,Bs,Bj,Bf,Mk,Nat.reduceAdd,Nat.reduceSub,Nat.reduceMul,Nat.reduceMod,Nat.reduceDiv,Q0,U,hd1] at hR
  rw [may_A (m := m+2)] at hR
  rw [show m+1+2=m+3 from rfl] at e1
  simp (config := {maxSteps := 3000000}) (disch := omega) only [qa,g0,g1,g2,g3,g4,g5,g6,g7,g8,g9,Bb,B9,B7,Bd,Bq,Bi,Bt,Bk,Bl,Bp,w0,w1,w2,w3,w4,w5,w6,w7,w8,w9,Bc,Ba,B5,Bo,Be,Bm,Br,Bs,Bj,Bf,Mk,Nat.reduceAdd,Nat.reduceSub,Nat.reduceMul,Nat.reduceMod,Nat.reduceDiv,Q0,U,e1] at hR
  subst hR
  exact ⟨_, _, wv, rfl, b1, b1', f1, fun q hq h2 h3 h4 => (o1 q hq h2 h3 h4).trans (A6 _ _ (Ne.symm h2)), d1, y1⟩
theorem mks_z {n:K4} (hn:n.toN<65535) (h:Heap) (κ:KV):Ky 1 true [.int .u8 0] (.int .i64 8192) (.int .i64 8192) h n κ=κ (.sl n 0 8192 8192 true 1) (Ac n h (some (.c (cb (List.replicate 8192 0)) false none))) n.up := by
  rw [Zh hn (Nat.le_refl _) (by decide) _ rfl .i64 .i64 (by decide) (by decide)]
  unfold cb
  rw [Kx, List.length_replicate]
/-- What a new slots file holds. -/
noncomputable def imgL (l:List UInt8):List UInt8 := slotL 1 l++List.replicate (8192 - (16+l.length)) 0
theorem imgL_len {l:List UInt8} (hl:l.length≤4080):(imgL l).length=8192 := by rw [imgL, List.length_append, slotL_len, List.length_replicate]; omega
theorem screate_ok {m:Nat} {f d:K4} {h:Heap} {n:K4} {room rd calls:Nat} {l0:V} {v:V} {l:List UInt8}
    (hf:A8 f h=some (.c (.l (fsC room rd calls 18446744073709551615 (.map d) l0 (.nil .sl))) false none)) (hd:A8 d h=some (.m [] [] 0)) (hfr:Al h n) (hfn:f.toN<n.toN) (hdf:d.toN<f.toN)
    (hv:E1 v l h) (hvp:∀ p:K4, (∃ off cap ex, v = .sl p off l.length cap ex 1)->p.toN<n.toN∧p≠f∧p≠d) (hl:l.length≤4080) (hr1:8192≤room) (hr2:room≤4194304) (hc:calls<900000) (hn:n.toN<50000) :
    ∃ h' n' x dm pc lm sp cv sv tv, Ak tab (m+12) ⟨.d0, .d2, .d0⟩ [.ptr f 0, .str 3 5128525, v] h n = .rv (.tup [.ptr sp 0, .int .i64 0]) h' n'∧n.toN≤n'.toN∧n'.toN≤n.toN+240 ∧
      SS h' n' f d x dm pc lm sp room rd (calls+5) 18446744073709551615 1 2 (imgL l) (imgL l) cv sv tv 0 1 1 l∧A8 dm h'=some (.m [] [] 0) := by
  have u1 := K4.up_toN (p := n) (by omega)
  have hsl:(slotL 1 l).length=16+l.length := slotL_len _ _
  have el := hv.len (by omega)
  have hS := size_none (m := m+10) (n := n) (a := 3) (c := 5128525) hf hd
  generalize hA:Ac n h (some (.c (cb (List.replicate 8192 0)) false none))=A
  have aZ:A8 n A=some (.c (cb (List.replicate 8192 0)) false none) := by rw [←hA, A7]
  have aO:∀ q:K4, q.toN<n.toN->A8 q A=A8 q h := fun q hq => by rw [←hA]; exact Aj hq _ _
  have aF:Al A n.up := fun q hq => by rw [←hA]; exact (Aq (by omega) _ _).trans (hfr q (by omega))
  have hvA:E1 v l A := hv.frame fun p hp => aO p (hvp p hp).1
  obtain ⟨c1, h1, n1, e1, o1, a1, a2, f1, r1⟩ := slot_ok (m := m+8) (turn := 1) (n := n.up) (by omega) hvA (fun p hp => by have := (hvp p hp).1; omega) (by omega) (by omega)
  have hn1:n.up.toN<n1.toN := by
    rcases o1 with ⟨_, e⟩ | ⟨p, ex, pr, _, _, q1, q2, _⟩
    · rw [e] at hsl; simp only [List.length_nil] at hsl; omega
    · omega
  have hcp := QN o1.src (by rw [hsl]; omega) (p := n) (off := 0) (len := 8192) (cap := 8192) (ex := true) (bs := List.replicate 8192 0) (pr := none) ((f1 n (by omega)).trans aZ) (by rw [hsl]; omega) (by rw [hsl, List.length_replicate]; omega) (by rw [hsl]; omega)
  have himg:(List.replicate 8192 (0:UInt8)).take 0++(slotL 1 l++(List.replicate 8192 (0:UInt8)).drop (0+(slotL 1 l).length))=imgL l := by
    rw [List.take_zero, List.nil_append, List.drop_replicate, hsl, Nat.zero_add]; rfl
  rw [himg] at hcp
  have il := imgL_len hl
  generalize hB:Ac n (E9 none h1) (some (.c (cb (imgL l)) false none))=B at hcp
  have bZ:A8 n B=some (.c (cb (imgL l)) false none) := by rw [←hB, A7]
  have bO:∀ q:K4, q≠n->A8 q B=A8 q h1 := fun q hq => by rw [←hB]; exact A6 _ _ (Ne.symm hq)
  have bO2:∀ q:K4, q.toN<n.toN->A8 q B=A8 q h := fun q hq => (bO q (K4.ne_of_lt hq)).trans ((f1 q (by omega)).trans (aO q hq))
  have bF:Al B n1 := fun q hq => (bO q (K4.ne_of_lt (by omega)).symm).trans (r1 aF q hq)
  -- NEW is Jl, written, synced, renamed
  obtain ⟨h2, n2, e2, a3, a4, r2, f2, d2, u2, k2, x2, m2, pw, y2, pw1, pw2, w2'⟩ := create_ok (m := m+7) (n := n1) (a := 3) (c := 5719374) (.inl ⟨rfl, rfl⟩) (by omega) (fun h n => may_N (m := m+9)) ((bO2 f hfn).trans hf) ((bO2 d (by omega)).trans hd) bF (by omega) hdf (by omega)
  have z2 := (f2 n (by omega) (K4.ne_of_lt (by omega)).symm (K4.ne_of_lt (by omega)).symm).trans bZ
  obtain ⟨h3, n3, pc, e3, a5, a6, r3, f3, y3, m3, k3, k3', cv, x3, o3⟩ := write_app (m := m) (n := n2) (pc := n.up) (bs := []) (v := .sl n 0 8192 8192 true 1) (l := imgL l) (.inl ⟨rfl, rfl⟩) (by omega) y2 d2 (by omega) x2 m2 IK.nil (.inl ⟨rfl, rfl⟩) (.inr (.inr ⟨n, 0, 8192, true, imgL l, false, none, by rw [il], z2, by omega, by rw [List.drop_zero, List.take_length]⟩)) hr2 (by rw [il]; simp only [List.length_nil]; omega) (by omega) (by omega) (by omega) (K4.ne_of_lt hdf) (by omega) (K4.ne_of_lt (by omega)) (by omega) (K4.ne_of_lt (by omega)) (K4.ne_of_lt (by omega)) (by omega) (K4.ne_of_lt (by omega)).symm (K4.ne_of_lt (by omega)) (K4.ne_of_lt (by omega)) (by omega)
    (fun p hp => by obtain ⟨_, _, _, e⟩ := hp; obtain ⟨rfl, _⟩ := V.sl.inj e; exact ⟨by omega, (K4.ne_of_lt (by omega)).symm, K4.ne_of_lt (by omega), K4.ne_of_lt (by omega), K4.ne_of_lt (by omega)⟩)
  rw [List.nil_append] at o3
  have d3 := (f3 d (by omega) (K4.ne_of_lt hdf) (K4.ne_of_lt (by omega)) (K4.ne_of_lt (by omega)) (K4.ne_of_lt (by omega))).trans d2
  have w3' := (f3 pw pw2 (K4.ne_of_lt (by omega)).symm (K4.ne_of_lt (by omega)).symm (K4.ne_of_lt (by omega)).symm (K4.ne_of_lt (by omega)).symm).trans w2'
  obtain ⟨h4, n4, dm', sv, ps, e4, a7, a8, r4, f4, y4, x4', k4, k4', m4, o4, q4, q4', q5⟩ := sync_ok (m := m+8) (n := n3) (.inl ⟨rfl, rfl⟩) (by omega) y3 d3 x3 o3 (by rw [il]; omega) (by omega) (by omega) (K4.ne_of_lt hdf) (by omega) (K4.ne_of_lt (by omega)) (by omega) (K4.ne_of_lt (by omega)).symm (K4.ne_of_lt (by omega)).symm (by omega)
  have d4 := (f4 d (by omega) (K4.ne_of_lt hdf) (K4.ne_of_lt (by omega))).trans d3
  have w4' := (f4 pw (by omega) (K4.ne_of_lt (by omega)).symm (K4.ne_of_lt (by omega)).symm).trans w3'
  obtain ⟨h5, n5, wv, e5, a9, a10, r5, f5, d5, y5⟩ := rename_ok (m := m+7) (n := n4) (.inl ⟨rfl, rfl⟩) (by omega) y4 d4 w4' (r4 (r3 r2)) (by omega) (by omega) (K4.ne_of_lt hdf) (by omega) (K4.ne_of_lt (by omega)).symm (K4.ne_of_lt (by omega)).symm (by omega)
  obtain ⟨h6, e6, f6, r6, l6, y6⟩ := syncdir_ok (m := m+8) (n := n5) (.inl ⟨rfl, rfl⟩) (by omega) y5 d5 (by omega) hdf (by omega)
  have u5 := K4.up_toN (p := n5) (by omega)
  have k6:∀ q:K4, q.toN<n.toN->q≠f->q≠d->A8 q h6=A8 q h := fun q h1 h2 h3 => by
    rw [f6 q (by omega) h2, f5 q (by omega) h2 h3 (K4.ne_of_lt (by omega)), f4 q (by omega) h2 (K4.ne_of_lt (by omega)), f3 q (by omega) h2 (K4.ne_of_lt (by omega)) (K4.ne_of_lt (by omega)) (K4.ne_of_lt (by omega)), f2 q (by omega) h2 h3, bO2 q h1]
  obtain ⟨h7, n7, tv, e7, a11, a12, t7, f7, r7, w7'⟩ := clone_src (m := m+10) (n := n5.up) (hv.frame (h' := h6) fun p hp => by obtain ⟨q1, q2, q3⟩ := hvp p hp; exact k6 p q1 q2 q3) (fun p hp => by have := (hvp p hp).1; omega) (by omega) (by omega) [f, d, n1.up, dm', pc, n5] (fun q hq => by
    simp only [List.mem_cons,List.not_mem_nil,or_false] at hq
    rcases hq with rfl | rfl | rfl | rfl | rfl | rfl <;> omega)
  have u7 := K4.up_toN (p := n7) (by omega)
  have sP:∀ (i:Nat) (l:List V) (κ:List V->R), Ax i tv l κ=C6 i l tv κ := by
    rcases w7' with rfl | ⟨_, _, _, rfl⟩
    · exact fun i l κ => Qx _ _ _ _
    · exact fun i l κ => Vk _ _ _ _ _ _ _ _ _
  generalize hR:Ak tab (m+12) ⟨.d0, .d2, .d0⟩ [.ptr f 0, .str 3 5128525, v] h n=R0
  rw [call2_at, show B0 ⟨.d0, .d2, .d0⟩ tab=some x32 from rfl, x32] at hR
  rw [show m+10+1=m+11 from rfl] at hS e7
  rw [show m+8+3=m+11 from rfl] at e1 e4 e6
  rw [show m+7+4=m+11 from rfl] at e2 e5
  simp only [List.length_nil] at e3
  rw [show iL 1 = .int .u64 1 from rfl] at *
  simp (config := {maxSteps := 3000000}) (disch := omega) only [qa,g0,g1,g2,g3,g4,g5,g6,g7,g8,g9,Bb,B9,B7,Bd,Bq,Bi,Bt,Bk,Bl,Bp,w0,w1,w2,w3,w4,w5,w6,w7,w8,w9,Bc,Ba,B5,Bo,Be,Bm,Br,Bs,Bj,Bf,Mk,Nat.reduceAdd,Nat.reduceSub,Nat.reduceMul,Nat.reduceMod,Nat.reduceDiv,Q0,U,en0,el,hS,mks_z,hA,e1,hcp,e2,e3,e4,e5,e6,e7,sP] at hR
  subst hR
  have fin:∀ q:K4, q.toN<n4.toN->q≠f->q≠d->q≠pw->A8 q (Ac n7 h7 (some (.c (.l (spC f tv 1 0 1)) false none)))=A8 q h4 := fun q h1 h2 h3 h4 => by
    rw [Aj (by omega), f7 q (by omega), f6 q (by omega) h2, f5 q h1 h2 h3 h4]
  have mz:A8 dm' (Ac n7 h7 (some (.c (.l (spC f tv 1 0 1)) false none)))=some (.m [] [] 0) := by rw [fin _ (by omega) (K4.ne_of_lt (by omega)).symm (K4.ne_of_lt (by omega)).symm (K4.ne_of_lt (by omega)).symm]; exact m4
  refine ⟨_, n7.up, n1.up, dm', pc, n5, n7, cv, sv, tv, rfl, by omega, by omega, ⟨?_, ?_, by omega, ?_, ?_, ⟨[], [], 0, mz, IK.nil⟩, ?_, ?_, A7 _ _ _, ?_, ?_, ?_, ?_⟩, mz⟩
  · rw [Aj (by omega), f7 f (by omega)]; exact y6
  · rw [Aj (by omega), f7 d (by omega), f6 d (by omega) (K4.ne_of_lt hdf)]; exact d5
  · rw [Aj (by omega), f7 n5 (by omega)]; exact l6
  · rw [fin _ (by omega) (K4.ne_of_lt (by omega)).symm (K4.ne_of_lt (by omega)).symm (K4.ne_of_lt (by omega))]; exact x4'
  · exact o3.frame (by rw [fin _ (by omega) (K4.ne_of_lt (by omega)).symm (K4.ne_of_lt (by omega)).symm (K4.ne_of_lt (by omega)).symm, f4 pc (by omega) (K4.ne_of_lt (by omega)).symm (K4.ne_of_lt (by omega)).symm])
  · rcases o4 with o4 | ⟨ex, e, g⟩
    · exact .inl o4
    · rcases q5 with q5 | ⟨q5, q6⟩
      · rw [q5] at e; cases e
      · refine .inr ⟨ps, ex, e, (fin _ (by omega) (K4.ne_of_lt (by omega)).symm (K4.ne_of_lt (by omega)).symm (K4.ne_of_lt (by omega)).symm).trans g, by omega, fun q hq => ?_⟩
        simp only [List.mem_cons,List.not_mem_nil,or_false] at hq
        rcases hq with rfl | rfl | rfl | rfl | rfl | rfl | rfl
        · exact (K4.ne_of_lt (by omega)).symm
        · exact (K4.ne_of_lt (by omega)).symm
        · exact (K4.ne_of_lt (by omega)).symm
        · exact q4'
        · exact (K4.ne_of_lt (by omega)).symm
        · exact K4.ne_of_lt (by omega)
        · exact K4.ne_of_lt (by omega)
  · refine t7.frame (by omega) fun p hp hq => ⟨Aj hp _ _, fun q hq2 => ?_⟩
    simp only [List.mem_cons,List.not_mem_nil,or_false] at hq2
    rcases hq2 with rfl | rfl | rfl | rfl | rfl | rfl | rfl
    · exact hq _ (by simp)
    · exact hq _ (by simp)
    · exact hq _ (by simp)
    · exact hq _ (by simp)
    · exact hq _ (by simp)
    · exact hq _ (by simp)
    · exact K4.ne_of_lt hp
  · exact fun q hq => (Aq (by omega) _ _).trans (r7 (r6 r5) q (by omega))
  · simp only [List.pairwise_cons,List.mem_cons,List.not_mem_nil,or_false,forall_eq_or_imp,forall_eq,List.Pairwise.nil,and_true,false_implies,implies_true]
    have lt:∀ {p q:K4}, p.toN<q.toN->p≠q := fun h => K4.ne_of_lt h
    exact ⟨⟨(lt hdf).symm, lt (by omega), lt (by omega), lt (by omega), lt (by omega), lt (by omega)⟩, ⟨lt (by omega), lt (by omega), lt (by omega), lt (by omega), lt (by omega)⟩, ⟨lt (by omega), lt (by omega), lt (by omega), lt (by omega)⟩, ⟨(lt (by omega)).symm, lt (by omega), lt (by omega)⟩, ⟨lt (by omega), lt (by omega)⟩, lt (by omega)⟩
  · intro q hq
    simp only [List.mem_cons,List.not_mem_nil,or_false] at hq
    rcases hq with rfl | rfl | rfl | rfl | rfl | rfl | rfl <;> omega
/-- A slice that was Jl for one's own. -/
def OwnN (lo hi:Nat) (h:Heap) (z:Nat) (v:V) (l:List V) (k:Nat):Prop := (v = .nil .sl∧l=[]∧k=0) ∨ ∃ p ex, v = .sl p 0 k k ex z∧A8 p h=some (.c (.l l) false none)∧l.length=k*z∧lo≤p.toN∧p.toN<hi
theorem OwnN.frame {lo hi lo' hi':Nat} {h h':Heap} {z:Nat} {v:V} {l:List V} {k:Nat} (H:OwnN lo hi h z v l k) (h1:lo'≤lo) (h2:hi≤hi') (e:∀ q:K4, lo≤q.toN->q.toN<hi->A8 q h'=A8 q h):OwnN lo' hi' h' z v l k := by
  rcases H with H | ⟨p, ex, a, b, c, d, f⟩
  · exact .inl H
  · exact .inr ⟨p, ex, a, (e p d f).trans b, c, by omega, by omega⟩
theorem OwnN.ls {lo hi:Nat} {n:K4} {h:Heap} {z:Nat} {v:V} {l:List V} {k:Nat} (H:OwnN lo hi h z v l k) (hn:hi≤n.toN) (av:List K4) (hav:∀ q∈av, q.toN<lo∨hi≤q.toN):LS h n av z v l k := by
  rcases H with H | ⟨p, ex, a, b, c, d, f⟩
  · exact .inl H
  · refine .inr ⟨p, 0, k, ex, l, false, none, a, b, by omega, by rw [List.drop_zero, ←c, List.take_length], by omega, fun q hq e => ?_⟩
    have := hav q hq
    rw [←e] at this
    omega
theorem clI {m:Nat} {h:Heap} {n:K4} {av:List K4} {v:V} {l:List V} {k:Nat} (H:LS h n av 1 v l k) (hk:k≤100000) (hn:n.toN<63000) :
    ∃ h' n' v', Ak tab (m+1) ⟨.d0, .d5, .d13⟩ [v] h n = .rv v' h' n'∧n.toN≤n'.toN∧n'.toN≤n.toN+2∧OwnN n.toN n'.toN h' 1 v' l k∧(∀ q:K4, q.toN<n.toN->A8 q h'=A8 q h)∧(Al h n->Al h' n') := by
  have hl := H.lenl
  rcases H with ⟨rfl, rfl, rfl⟩ | ⟨p, off, cap, ex, a, s, pr, hv, hr⟩
  · refine ⟨h, n, .nil .sl, ?_, by omega, by omega, .inl ⟨rfl, rfl, rfl⟩, fun q _ => rfl, fun h => h⟩
    rw [call2_at, show B0 ⟨.d0, .d5, .d13⟩ tab=some x93 from rfl, x93]
    simp (disch := omega) only [qa,g0,g1,g2,g3,g4,g5,g6,g7,g8,g9,Bb,B9,B7,Bd,Bq,Bi,Bt,Bk,Bl,Bp,w0,w1,w2,w3,w4,w5,w6,w7,w8,w9,Bc,Ba,B5,Bo,Be,Bm,Br,Bs,Bj,Bf,Mk,Nat.reduceAdd,Nat.reduceSub,Nat.reduceMul,Nat.reduceMod,Nat.reduceDiv,Q0,U,en3]
  · have hne:∀ κ:V->R, E2 false (.rf .sl) v (.nil .sl) κ=κ (.bool false) := fun κ => by rw [hv]; exact LD _ _ _ _ _ _ _ _
    obtain ⟨h', n', v', e, b1, b2, ⟨p', ex', e1, e2, e3, e4⟩, f1, f2⟩ := US (eb := 8) (H := (.inr ⟨p, off, cap, ex, a, s, pr, hv, hr⟩:LS h n av 1 v l k)) (by omega) (by omega)
    refine ⟨h', n', v', ?_, by omega, b2, .inr ⟨p', ex', e1, e2, hl, e3, e4⟩, f1, f2⟩
    clear hv
    rw [call2_at, show B0 ⟨.d0, .d5, .d13⟩ tab=some x93 from rfl, x93]
    simp (disch := omega) only [qa,g0,g1,g2,g3,g4,g5,g6,g7,g8,g9,Bb,B9,B7,Bd,Bq,Bi,Bt,Bk,Bl,Bp,w0,w1,w2,w3,w4,w5,w6,w7,w8,w9,Bc,Ba,B5,Bo,Be,Bm,Br,Bs,Bj,Bf,Mk,Nat.reduceAdd,Nat.reduceSub,Nat.reduceMul,Nat.reduceMod,Nat.reduceDiv,Q0,U,en3,hne,e]
theorem clT {m:Nat} {h:Heap} {n:K4} {av:List K4} {v:V} {l:List V} {k:Nat} (H:LS h n av 6 v l k) (hk:k≤100000) (hn:n.toN<63000) :
    ∃ h' n' v', Ak tab (m+1) ⟨.d0, .d5, .d12⟩ [v] h n = .rv v' h' n'∧n.toN≤n'.toN∧n'.toN≤n.toN+2∧OwnN n.toN n'.toN h' 6 v' l k∧(∀ q:K4, q.toN<n.toN->A8 q h'=A8 q h)∧(Al h n->Al h' n') := by
  have hl := H.lenl
  rcases H with ⟨rfl, rfl, rfl⟩ | ⟨p, off, cap, ex, a, s, pr, hv, hr⟩
  · refine ⟨h, n, .nil .sl, ?_, by omega, by omega, .inl ⟨rfl, rfl, rfl⟩, fun q _ => rfl, fun h => h⟩
    rw [call2_at, show B0 ⟨.d0, .d5, .d12⟩ tab=some x92 from rfl, x92]
    simp (disch := omega) only [qa,g0,g1,g2,g3,g4,g5,g6,g7,g8,g9,Bb,B9,B7,Bd,Bq,Bi,Bt,Bk,Bl,Bp,w0,w1,w2,w3,w4,w5,w6,w7,w8,w9,Bc,Ba,B5,Bo,Be,Bm,Br,Bs,Bj,Bf,Mk,Nat.reduceAdd,Nat.reduceSub,Nat.reduceMul,Nat.reduceMod,Nat.reduceDiv,Q0,U,en3]
  · have hne:∀ κ:V->R, E2 false (.rf .sl) v (.nil .sl) κ=κ (.bool false) := fun κ => by rw [hv]; exact LD _ _ _ _ _ _ _ _
    obtain ⟨h', n', v', e, b1, b2, ⟨p', ex', e1, e2, e3, e4⟩, f1, f2⟩ := US (eb := 64) (H := (.inr ⟨p, off, cap, ex, a, s, pr, hv, hr⟩:LS h n av 6 v l k)) (by omega) (by omega)
    refine ⟨h', n', v', ?_, by omega, b2, .inr ⟨p', ex', e1, e2, hl, e3, e4⟩, f1, f2⟩
    clear hv
    rw [call2_at, show B0 ⟨.d0, .d5, .d12⟩ tab=some x92 from rfl, x92]
    simp (disch := omega) only [qa,g0,g1,g2,g3,g4,g5,g6,g7,g8,g9,Bb,B9,B7,Bd,Bq,Bi,Bt,Bk,Bl,Bp,w0,w1,w2,w3,w4,w5,w6,w7,w8,w9,Bc,Ba,B5,Bo,Be,Bm,Br,Bs,Bj,Bf,Mk,Nat.reduceAdd,Nat.reduceSub,Nat.reduceMul,Nat.reduceMod,Nat.reduceDiv,Q0,U,en3,hne,e]
/-- A tenant, and its cells. -/
structure Ten where
  id:Nat
  ep:Nat
  qu:Nat
  nx:Nat
  ns:Nat
  segs:List Nat
def Ten.c (t:Ten) (sv:V):List V := [.int .u32 t.id, .int .u64 t.ep, .int .i64 t.qu, .int .u64 t.nx, .int .i64 t.ns, sv]
def flatP:List (Ten×V)->List V
  | [] => []
  | p::l => p.1.c p.2++flatP l
theorem flatP_len:∀ l:List (Ten×V), (flatP l).length=l.length*6
  | [] => rfl
  | p::l => by rw [flatP, List.length_append, flatP_len l, List.length_cons, Nat.succ_mul]; show 6+_=_; omega
theorem flatP_app:∀ a b:List (Ten×V), flatP (a++b)=flatP a++flatP b
  | [], b => rfl
  | p::a, b => by rw [List.cons_append, flatP, flatP, flatP_app a b, List.append_assoc]
theorem flat_drop {done rest:List (Ten×V)} {x:Ten×V} {i:Nat} (h:done.length=i):(flatP (done++x::rest)).drop (i*6)=x.1.c x.2++flatP rest := by
  rw [flatP_app, List.drop_left' (by rw [flatP_len, h])]; rfl
theorem flat_six {done rest:List (Ten×V)} {x:Ten×V} {i:Nat} (h:done.length=i):((flatP (done++x::rest)).drop (i*6)).take 6=x.1.c x.2 := by
  rw [flat_drop h, List.take_left' (show (x.1.c x.2).length=6 from rfl)]
theorem flat_at {done rest:List (Ten×V)} {x:Ten×V} {i:Nat} (h:done.length=i) (j:Nat) (hj:j<6):(flatP (done++x::rest))[i*6+j]? = (x.1.c x.2)[j]? := by
  have e := flat_drop (rest := rest) (x := x) h
  have:((flatP (done++x::rest)).drop (i*6))[j]? = (x.1.c x.2)[j]? := by rw [e, List.getElem?_append_left (by exact hj)]
  rw [List.getElem?_drop] at this; exact this
theorem flat_set {done rest:List (Ten×V)} {t:Ten} {sv v:V} {i:Nat} (h:done.length=i):(flatP (done++(t, sv)::rest)).set (i*6+5) v=flatP (done++(t, v)::rest) := by
  rw [flatP_app, flatP_app, List.set_append_right _ _ (by rw [flatP_len, h]; omega), flatP_len, h, show i*6+5 - i*6=5 by omega]; rfl
theorem flat_put {done rest:List (Ten×V)} {x y:Ten×V} {i:Nat} (h:done.length=i):(flatP (done++x::rest)).take (i*6)++(y.1.c y.2++(flatP (done++x::rest)).drop (i*6+6))=flatP (done++y::rest) := by
  have e1:(flatP (done++x::rest)).take (i*6)=flatP done := by rw [flatP_app, List.take_left' (by rw [flatP_len, h])]
  have e2:(flatP (done++x::rest)).drop (i*6+6)=flatP rest := by rw [←List.drop_drop, flat_drop h, List.drop_left' (show (x.1.c x.2).length=6 from rfl)]
  rw [e1, e2, flatP_app]; rfl
/-- A slice of tenants that is read. -/
def TL (h:Heap) (n:K4) (av:List K4) (v:V) (ps:List (Ten×V)):Prop := LS h n av 6 v (flatP ps) ps.length ∧ ∀ p∈ps, LS h n av 1 p.2 (p.1.segs.map (V.int .i64)) p.1.segs.length
theorem TL.more {h h':Heap} {n n':K4} {av:List K4} {v:V} {ps:List (Ten×V)} (H:TL h n av v ps) (hn:n.toN≤n'.toN) (e:∀ p:K4, p.toN<n.toN->A8 p h'=A8 p h):TL h' n' av v ps := ⟨H.1.more hn e, fun p hp => (H.2 p hp).more hn e⟩
/-- One that was Jl for one's own. -/
def TN (lo:Nat) (n:K4) (h:Heap) (v:V) (ps:List (Ten×V)):Prop := ∃ n1:Nat, lo≤n1∧n1≤n.toN∧OwnN lo n1 h 6 v (flatP ps) ps.length ∧ ∀ p∈ps, OwnN n1 n.toN h 1 p.2 (p.1.segs.map (V.int .i64)) p.1.segs.length
theorem TN.tl {lo:Nat} {n:K4} {h:Heap} {v:V} {ps:List (Ten×V)} (H:TN lo n h v ps) (av:List K4) (hav:∀ q∈av, q.toN<lo∨n.toN≤q.toN):TL h n av v ps := by
  obtain ⟨n1, h1, h2, h3, h4⟩ := H
  exact ⟨h3.ls h2 av fun q hq => by have := hav q hq; omega, fun p hp => (h4 p hp).ls (Nat.le_refl _) av fun q hq => by have := hav q hq; omega⟩
theorem TN.frame {lo:Nat} {n n':K4} {h h':Heap} {v:V} {ps:List (Ten×V)} (H:TN lo n h v ps) (hn:n.toN≤n'.toN) (e:∀ q:K4, lo≤q.toN->q.toN<n.toN->A8 q h'=A8 q h):TN lo n' h' v ps := by
  obtain ⟨n1, h1, h2, h3, h4⟩ := H
  exact ⟨n1, h1, by omega, h3.frame (Nat.le_refl _) (Nat.le_refl _) fun q a b => e q a (by omega), fun p hp => (h4 p hp).frame (Nat.le_refl _) hn fun q a b => e q (by omega) b⟩
noncomputable def cpB (c:Ei):S->Heap->K4->R := fun t h n=>g3 t fun z4=>g2 t fun z5=>AO z4 z5 fun z6=>AZ z6 (Ah 1 (g0 t fun z7=>AG 6 z7 z4 fun z8=>Am 5 z8 fun z9=>Av z9 h fun za=>Ag (c ⟨.d0,.d5,.d13⟩ [za] h n) fun zb h n=>AG 6 z7 z4 fun zc=>Am 5 zc fun zd=>BQ zd zb h fun h=>nR t h n) fun t h n=>g3 t fun ze=>AM ze (iI 1) fun zf=>w3 t zf fun t=>nR t h n)<|.ok (.exit 0) t h n
noncomputable def x71L:Ent := .code en3 (fun c t h n=>g0 t fun z1=>Ag (c ⟨.d0,.d5,.d12⟩ [z1] h n) fun z2 h n=>AJ z2 fun z3=>Ah 0 (w0 t z2 fun t=>w1 t (.nil .sl) fun t=>w2 t z3 fun t=>w3 t (iI 0) fun t=>B8 (cpB c) t h n) fun t h n=>g0 t fun zg=>w1 t zg fun t=>rT t h n) (fun t h n=>g1 t fun a0=>.rv a0 h n)
theorem x71_L:x71=x71L := rfl
theorem sT_sl {v:V} {lo hi:Nat} {h0:Heap} {z k:Nat} {l:List V} (H:OwnN lo hi h0 z v l k) (p:K4) (off:Nat) (h:Heap) (κ:Heap->R):BQ (.ptr p off) v h κ=TS (A8 p h) h p off v κ := by
  rcases H with ⟨rfl, _, _⟩ | ⟨_, _, rfl, _⟩
  · exact Oc _ _ _ _ _
  · exact Sg _ _ _ _ _ _ _ _ _ _
theorem cp_loop {m:Nat} {n0 p:K4} {h0:Heap} {av:List K4} {k n1:Nat} {ex:Bool} (hk:k≤100) (h01:n0.toN≤p.toN) (h11:p.toN<n1) :
    ∀ (j i:Nat) (h:Heap) (n:K4) (done rest:List (Ten×V)), done.length=i->rest.length=j->i+j=k->A8 p h=some (.c (.l (flatP (done++rest))) false none)->n1≤n.toN->(∀ q:K4, q.toN<n0.toN->A8 q h=A8 q h0) →
      (∀ x∈rest, LS h0 n0 av 1 x.2 (x.1.segs.map (V.int .i64)) x.1.segs.length)->(∀ x∈done, OwnN n1 n.toN h 1 x.2 (x.1.segs.map (V.int .i64)) x.1.segs.length)->(∀ x∈rest, x.1.segs.length≤100)->n.toN+2*j<62000 →
    ∃ h' n' done', (∀ K, Cr (cpB (Ak tab (m+1))) (K+j+1) (.mk (.mk (.sl p 0 k k ex 6) (.nil .sl) (.int .i64 k) (.int .i64 i)) Q0 Q0 Q0 Q0 Q0 Q0 Q0) h n = .ok (.exit 0) (.mk (.mk (.sl p 0 k k ex 6) (.nil .sl) (.int .i64 k) (.int .i64 k)) Q0 Q0 Q0 Q0 Q0 Q0 Q0) h' n') ∧
      A8 p h'=some (.c (.l (flatP done')) false none)∧done'.map Prod.fst=(done++rest).map Prod.fst∧n.toN≤n'.toN∧n'.toN≤n.toN+2*j∧(∀ x∈done', OwnN n1 n'.toN h' 1 x.2 (x.1.segs.map (V.int .i64)) x.1.segs.length)∧(∀ q:K4, q.toN<n0.toN->A8 q h'=A8 q h0)∧(Al h n->Al h' n') := by
  intro j
  induction j with
  | zero =>
    intro i h n done rest hd hr hij hp hn e hl ho hs hb
    obtain rfl := List.length_eq_zero_iff.1 hr
    rw [List.append_nil] at hp
    obtain rfl:i=k := by omega
    refine ⟨h, n, done, fun K => ?_, hp, by rw [List.append_nil], by omega, by omega, ho, e, fun h => h⟩
    rw [BN]
    unfold cpB
    simp (disch := omega) only [qa,g0,g1,g2,g3,g4,g5,g6,g7,g8,g9,Bb,B9,B7,Bd,Bq,Bi,Bt,Bk,Bl,Bp,w0,w1,w2,w3,w4,w5,w6,w7,w8,w9,Bc,Ba,B5,Bo,Be,Bm,Br,Bs,Bj,Bf,Mk,Nat.reduceAdd,Nat.reduceSub,Nat.reduceMul,Nat.reduceMod,Nat.reduceDiv,Q0,U]
  | succ j ih =>
    intro i h n done rest hd hr hij hp hn e hl ho hs hb
    cases rest with
    | nil => cases hr
    | cons x rest =>
      obtain ⟨t, sv⟩ := x
      have hlx := (hl _ List.mem_cons_self).more (h' := h) (n' := n) (by omega) e
      have hsx := hs _ List.mem_cons_self
      obtain ⟨h1, n1', v1, e1, b1, b2, o1, f1, r1⟩ := clI (m := m) hlx (by omega) (by omega)
      have hp1 := (f1 p (by omega)).trans hp
      have h5:∀ κ:V->R, DT (i*6+5) (flatP (done++(t, sv)::rest)) κ=κ sv := fun κ => OG (by rw [flat_at hd 5 (by decide)]; rfl)
      have hlen:(flatP (done++(t, sv)::rest)).length=k*6 := by rw [flatP_len, List.length_append, hd, hr, hij]
      have ne:∀ q:K4, n1≤q.toN->p≠q := fun q hq => K4.ne_of_lt (by omega)
      have sT := sT_sl o1
      obtain ⟨h2, n2, done2, e2, p2, m2, b3, b4, o2, g2', r2⟩ := ih (i+1) (Ac p h1 (some (.c (.l (flatP ((done++[(t, v1)])++rest))) false none))) n1' (done++[(t, v1)]) rest (by simp [hd]) (by simpa using hr) (by omega) (A7 _ _ _) (by omega) (fun q hq => (A6 _ _ (K4.ne_of_lt (by omega)).symm).trans ((f1 q (by omega)).trans (e q hq)))
        (fun y hy => hl y (List.mem_cons_of_mem _ hy)) (fun y hy => by
          rcases List.mem_append.1 hy with hy | hy
          · exact (ho y hy).frame (Nat.le_refl _) (by omega) fun q hq1 hq2 => (A6 _ _ (ne q hq1)).trans (f1 q hq2)
          · rw [List.mem_singleton.1 hy]
            exact o1.frame (by omega) (Nat.le_refl _) fun q hq1 hq2 => A6 _ _ (ne q (by omega))) (fun y hy => hs y (List.mem_cons_of_mem _ hy)) (by omega)
      refine ⟨h2, n2, done2, fun K => ?_, p2, by rw [m2]; simp, by omega, by omega, o2, g2', fun hf => r2 fun q hq => (Aq (by omega) _ _).trans (r1 hf q hq)⟩
      rw [BN]
      have e3 := e2 K
      rw [show K+(j+1)=K+j+1 by omega, ←e3]
      have hset:(flatP (done++(t, sv)::rest)).set (i*6+5) v1=flatP (done++[(t, v1)]++rest) := by rw [flat_set hd]; simp
      unfold cpB
      simp (disch := omega) only [qa,g0,g1,g2,g3,g4,g5,g6,g7,g8,g9,Bb,B9,B7,Bd,Bq,Bi,Bt,Bk,Bl,Bp,w0,w1,w2,w3,w4,w5,w6,w7,w8,w9,Bc,Ba,B5,Bo,Be,Bm,Br,Bs,Bj,Bf,Mk,Nat.reduceAdd,Nat.reduceSub,Nat.reduceMul,Nat.reduceMod,Nat.reduceDiv,Q0,U,hp,h5,e1,hp1,sT,hlen,hset]
theorem copied_ok {m:Nat} {h:Heap} {n:K4} {av:List K4} {v:V} {ps:List (Ten×V)} (H:TL h n av v ps) (hk:ps.length≤100) (hs:∀ x∈ps, x.1.segs.length≤100) (hn:n.toN<61000) :
    ∃ h' n' v' ps', Ak tab (m+2) ⟨.d0, .d4, .d7⟩ [v] h n = .rv v' h' n'∧n.toN≤n'.toN∧n'.toN≤n.toN+2+2*ps.length∧TN n.toN n' h' v' ps'∧ps'.map Prod.fst=ps.map Prod.fst∧(∀ q:K4, q.toN<n.toN->A8 q h'=A8 q h)∧(Al h n->Al h' n') := by
  obtain ⟨h1, n1, v1, e1, b1, b2, o1, f1, r1⟩ := clT (m := m) H.1 (by omega) (by omega)
  have hlen := (o1.ls (Nat.le_refl _) [] (fun q hq => by cases hq)).len (show ps.length<9223372036854775808 by omega)
  rcases o1 with ⟨rfl, c1, c2⟩ | ⟨p, ex, rfl, p1, p2, p3, p4⟩
  · obtain rfl := List.length_eq_zero_iff.1 c2
    refine ⟨h1, n1, .nil .sl, [], ?_, b1, by omega, ⟨n.toN, Nat.le_refl _, b1, .inl ⟨rfl, rfl, rfl⟩, fun x hx => by cases hx⟩, rfl, f1, r1⟩
    rw [call2_at, show B0 ⟨.d0, .d4, .d7⟩ tab=some x71 from rfl, x71_L, x71L]
    simp (disch := omega) only [qa,g0,g1,g2,g3,g4,g5,g6,g7,g8,g9,Bb,B9,B7,Bd,Bq,Bi,Bt,Bk,Bl,Bp,w0,w1,w2,w3,w4,w5,w6,w7,w8,w9,Bc,Ba,B5,Bo,Be,Bm,Br,Bs,Bj,Bf,Mk,Nat.reduceAdd,Nat.reduceSub,Nat.reduceMul,Nat.reduceMod,Nat.reduceDiv,Q0,U,en3,e1,Cg]
    unfold cpB
    simp (disch := omega) only [qa,g0,g1,g2,g3,g4,g5,g6,g7,g8,g9,Bb,B9,B7,Bd,Bq,Bi,Bt,Bk,Bl,Bp,w0,w1,w2,w3,w4,w5,w6,w7,w8,w9,Bc,Ba,B5,Bo,Be,Bm,Br,Bs,Bj,Bf,Mk,Nat.reduceAdd,Nat.reduceSub,Nat.reduceMul,Nat.reduceMod,Nat.reduceDiv,Q0,U]
  · obtain ⟨h2, n2, done, e2, q2, m2, b3, b4, o2, f2, r2⟩ := cp_loop (m := m) (n0 := n) (h0 := h) (av := av) (n1 := n1.toN) (ex := ex) hk p3 p4 ps.length 0 h1 n1 [] ps rfl rfl (by omega) p1 (Nat.le_refl _) f1 H.2 (fun x hx => by cases hx) hs (by omega)
    have hdl:done.length=ps.length := by have := congrArg List.length m2; simpa using this
    refine ⟨h2, n2, .sl p 0 ps.length ps.length ex 6, done, ?_, by omega, by omega, ⟨n1.toN, b1, b3, .inr ⟨p, ex, by rw [hdl], q2, by rw [flatP_len], p3, p4⟩, o2⟩, m2, f2, fun hf => r2 (r1 hf)⟩
    have eK := e2 (999999999 - ps.length)
    rw [show 999999999 - ps.length+ps.length+1=999999999+1 by omega, BN] at eK
    simp only [Q0] at eK
    rw [call2_at, show B0 ⟨.d0, .d4, .d7⟩ tab=some x71 from rfl, x71_L, x71L]
    simp (disch := omega) only [qa,g0,g1,g2,g3,g4,g5,g6,g7,g8,g9,Bb,B9,B7,Bd,Bq,Bi,Bt,Bk,Bl,Bp,w0,w1,w2,w3,w4,w5,w6,w7,w8,w9,Bc,Ba,B5,Bo,Be,Bm,Br,Bs,Bj,Bf,Mk,Nat.reduceAdd,Nat.reduceSub,Nat.reduceMul,Nat.reduceMod,Nat.reduceDiv,Q0,U,en3,e1,Cg,eK]
/-- Not from a to b. -/
noncomputable def outI (a b x:Nat):Bool := Dz .i64 x a || Dz .i64 b x
theorem in_cl {m:Nat} {h:Heap} {n pa pb:K4} {x a b:Nat} (ha:A8 pa h=some (.c (.l [.int .i64 a]) false none)) (hb:A8 pb h=some (.c (.l [.int .i64 b]) false none)) :
    Ak tab (m+1) (B2 143) [.int .i64 x, .ptr pa 0, .ptr pb 0] h n = .rv (.bool (outI a b x)) h n := by
  rw [call2_at, show B0 (B2 143) tab=some x143 from rfl, x143]
  unfold outI
  cases hc:Dz .i64 x a
  · simp (disch := omega) only [qa,g0,g1,g2,g3,g4,g5,g6,g7,g8,g9,Bb,B9,B7,Bd,Bq,Bi,Bt,Bk,Bl,Bp,w0,w1,w2,w3,w4,w5,w6,w7,w8,w9,Bc,Ba,B5,Bo,Be,Bm,Br,Bs,Bj,Bf,Mk,Nat.reduceAdd,Nat.reduceSub,Nat.reduceMul,Nat.reduceMod,Nat.reduceDiv,Q0,U,en0,ha,hb,hc,FF,FG,EN,EO]
  · simp (disch := omega) only [qa,g0,g1,g2,g3,g4,g5,g6,g7,g8,g9,Bb,B9,B7,Bd,Bq,Bi,Bt,Bk,Bl,Bp,w0,w1,w2,w3,w4,w5,w6,w7,w8,w9,Bc,Ba,B5,Bo,Be,Bm,Br,Bs,Bj,Bf,Mk,Nat.reduceAdd,Nat.reduceSub,Nat.reduceMul,Nat.reduceMod,Nat.reduceDiv,Q0,U,en0,ha,hb,hc,FF,FG,EN,EO,DJ]
noncomputable def ixB (c:Ei):S->Heap->K4->R := fun t h n=>g4 t fun z3=>g3 t fun z4=>AO z3 z4 fun z5=>AZ z5 (Ah 1 (g1 t fun z6=>g0 t fun z7=>AG 1 z7 z3 fun z8=>Av z8 h fun z9=>Kd c z6 [z9] h n fun za h n=>AZ za (w2 t z3 fun t=>rT t h n)<|nR t h n) fun t h n=>g4 t fun zb=>AM zb (iI 1) fun zc=>w4 t zc fun t=>nR t h n)<|.ok (.exit 0) t h n
noncomputable def x160L:Ent := .code en1 (fun c t h n=>g0 t fun z1=>AJ z1 fun z2=>Ah 0 (w2 t (iI 0) fun t=>w3 t z2 fun t=>w4 t (iI 0) fun t=>B8 (ixB c) t h n) fun t h n=>w2 t (iI 18446744073709551615) fun t=>rT t h n) (fun t h n=>g2 t fun a0=>.rv a0 h n)
theorem x160_L:x160=x160L := rfl
theorem ix_loop {m:Nat} {h:Heap} {n pa pb:K4} {av:List K4} {a b:Nat} {lv:V} {l:List Nat} (ha:A8 pa h=some (.c (.l [.int .i64 a]) false none)) (hb:A8 pb h=some (.c (.l [.int .i64 b]) false none)) (H:LS h n av 1 lv (l.map (V.int .i64)) l.length) (hl:l.length≤100000) :
    ∀ (j i:Nat), i+j=l.length →
      ((∀ x∈l.drop i, outI a b x=false) ∧ ∀ K, Cr (ixB (Ak tab (m+1))) (K+j+1) (.mk (.mk lv (.fn 143 [.ptr pa 0, .ptr pb 0]) (.int .i64 0) (.int .i64 l.length)) (.mk (.int .i64 i) Ar Ar Ar) Q0 Q0 Q0 Q0 Q0 Q0) h n = .ok (.exit 0) (.mk (.mk lv (.fn 143 [.ptr pa 0, .ptr pb 0]) (.int .i64 0) (.int .i64 l.length)) (.mk (.int .i64 l.length) Ar Ar Ar) Q0 Q0 Q0 Q0 Q0 Q0) h n) ∨
      ((∃ x∈l.drop i, outI a b x=true) ∧ ∃ r, r<l.length ∧ ∀ K, Cr (ixB (Ak tab (m+1))) (K+j+1) (.mk (.mk lv (.fn 143 [.ptr pa 0, .ptr pb 0]) (.int .i64 0) (.int .i64 l.length)) (.mk (.int .i64 i) Ar Ar Ar) Q0 Q0 Q0 Q0 Q0 Q0) h n = .ok .ret (.mk (.mk lv (.fn 143 [.ptr pa 0, .ptr pb 0]) (.int .i64 r) (.int .i64 l.length)) (.mk (.int .i64 r) Ar Ar Ar) Q0 Q0 Q0 Q0 Q0 Q0) h n) := by
  intro j
  induction j with
  | zero =>
    intro i hi
    obtain rfl:i=l.length := by omega
    refine .inl ⟨(fun x hx => by rw [List.drop_length] at hx; cases hx), fun K => ?_⟩
    rw [BN]
    unfold ixB
    simp (disch := omega) only [qa,g0,g1,g2,g3,g4,g5,g6,g7,g8,g9,Bb,B9,B7,Bd,Bq,Bi,Bt,Bk,Bl,Bp,w0,w1,w2,w3,w4,w5,w6,w7,w8,w9,Bc,Ba,B5,Bo,Be,Bm,Br,Bs,Bj,Bf,Mk,Nat.reduceAdd,Nat.reduceSub,Nat.reduceMul,Nat.reduceMod,Nat.reduceDiv,Q0,U]
  | succ j ih =>
    intro i hi
    have hil:i<l.length := by omega
    obtain ⟨p, o, e1, e2⟩ := H.at1 hil (by omega) (x := .int .i64 l[i]) (by simp [hil])
    have ec := in_cl (m := m) (h := h) (n := n) (x := l[i]) ha hb
    have hd:l.drop i=l[i]::l.drop (i+1) := List.drop_eq_getElem_cons hil
    cases hc:outI a b l[i] with
    | true =>
      rw [hc] at ec
      refine .inr ⟨⟨l[i], by rw [hd]; exact List.mem_cons_self, hc⟩, i, hil, fun K => ?_⟩
      rw [BN]
      unfold ixB
      simp (disch := omega) only [qa,g0,g1,g2,g3,g4,g5,g6,g7,g8,g9,Bb,B9,B7,Bd,Bq,Bi,Bt,Bk,Bl,Bp,w0,w1,w2,w3,w4,w5,w6,w7,w8,w9,Bc,Ba,B5,Bo,Be,Bm,Br,Bs,Bj,Bf,Mk,Nat.reduceAdd,Nat.reduceSub,Nat.reduceMul,Nat.reduceMod,Nat.reduceDiv,Q0,U,e1,e2,Qf,ec]
    | false =>
      rw [hc] at ec
      have step:∀ K, Cr (ixB (Ak tab (m+1))) (K+(j+1)+1) (.mk (.mk lv (.fn 143 [.ptr pa 0, .ptr pb 0]) (.int .i64 0) (.int .i64 l.length)) (.mk (.int .i64 i) Ar Ar Ar) Q0 Q0 Q0 Q0 Q0 Q0) h n=Cr (ixB (Ak tab (m+1))) (K+j+1) (.mk (.mk lv (.fn 143 [.ptr pa 0, .ptr pb 0]) (.int .i64 0) (.int .i64 l.length)) (.mk (.int .i64 (i+1)) Ar Ar Ar) Q0 Q0 Q0 Q0 Q0 Q0) h n := fun K => by
        rw [BN, show K+(j+1)=K+j+1 by omega]
        generalize Cr (ixB (Ak tab (m+1))) (K+j+1)=G
        unfold ixB
        simp (disch := omega) only [qa,g0,g1,g2,g3,g4,g5,g6,g7,g8,g9,Bb,B9,B7,Bd,Bq,Bi,Bt,Bk,Bl,Bp,w0,w1,w2,w3,w4,w5,w6,w7,w8,w9,Bc,Ba,B5,Bo,Be,Bm,Br,Bs,Bj,Bf,Mk,Nat.reduceAdd,Nat.reduceSub,Nat.reduceMul,Nat.reduceMod,Nat.reduceDiv,Q0,U,e1,e2,Qf,ec]
      rcases ih (i+1) (by omega) with ⟨h1, h2⟩ | ⟨⟨y, hy, h1⟩, r, h2, h3⟩
      · refine .inl ⟨fun x hx => ?_, fun K => (step K).trans (h2 K)⟩
        rw [hd] at hx
        rcases List.mem_cons.1 hx with rfl | hx
        · exact hc
        · exact h1 x hx
      · exact .inr ⟨⟨y, by rw [hd]; exact List.mem_cons_of_mem _ hy, h1⟩, r, h2, fun K => (step K).trans (h3 K)⟩
theorem in_ok {m:Nat} {h:Heap} {n:K4} {av:List K4} {a b:Nat} {lv:V} {l:List Nat} (H:LS h n av 1 lv (l.map (V.int .i64)) l.length) (hl:l.length≤100000) (hn:n.toN<64000) :
    ∃ h' n', Ak tab (m+4) ⟨.d0, .d6, .d9⟩ [.int .i64 a, .int .i64 b, lv] h n = .rv (.bool (l.all fun x => !outI a b x)) h' n'∧n.toN≤n'.toN∧n'.toN≤n.toN+2∧(∀ q:K4, q.toN<n.toN->A8 q h'=A8 q h)∧(Al h n->Al h' n') := by
  have u1 := K4.up_toN (p := n) (by omega)
  have u2 := K4.up_toN (p := n.up) (by omega)
  generalize hA:Ac n.up (Ac n h (some (.c (.l [.int .i64 a]) false none))) (some (.c (.l [.int .i64 b]) false none))=A
  have a1:A8 n A=some (.c (.l [.int .i64 a]) false none) := by rw [←hA, Aj (by omega), A7]
  have a2:A8 n.up A=some (.c (.l [.int .i64 b]) false none) := by rw [←hA, A7]
  have a3:∀ q:K4, q.toN<n.toN->A8 q A=A8 q h := fun q hq => by rw [←hA, Aj (by omega), Aj hq]
  have H1:LS A n.up.up av 1 lv (l.map (V.int .i64)) l.length := H.more (by omega) a3
  have hln := H1.len (by omega)
  have bI:∀ (k:IntKind) (r:Nat) (h:Heap) (n:K4) (hn:n.toN<65535) (κ:KV), Dv (.int k r) h n κ=κ (.ptr n 0) (Ac n h (some (.c (.l [.int k r]) false none))) n.up := fun k r h n hn κ => DH hn _ _ _
  have key:∃ r, Ak tab (m+2) ⟨.d0, .d10, .d0⟩ [lv, .fn 143 [.ptr n 0, .ptr n.up 0]] A n.up.up = .rv (.int .i64 r) A n.up.up∧r<18446744073709551616∧(l.all fun x => !outI a b x)=Dz .i64 r 0 := by
    rcases ix_loop (m := m) (n := n.up.up) a1 a2 H1 hl l.length 0 (by omega) with ⟨h1, h2⟩ | ⟨⟨y, hy, h1⟩, r, h2, h3⟩
    · refine ⟨18446744073709551615, ?_, by omega, ?_⟩
      · have eK := h2 (999999999 - l.length)
        rw [show 999999999 - l.length+l.length+1=999999999+1 by omega, BN] at eK
        simp only [Q0] at eK
        rw [call2_at, show B0 ⟨.d0, .d10, .d0⟩ tab=some x160 from rfl, x160_L, x160L]
        simp (disch := omega) only [qa,g0,g1,g2,g3,g4,g5,g6,g7,g8,g9,Bb,B9,B7,Bd,Bq,Bi,Bt,Bk,Bl,Bp,w0,w1,w2,w3,w4,w5,w6,w7,w8,w9,Bc,Ba,B5,Bo,Be,Bm,Br,Bs,Bj,Bf,Mk,Nat.reduceAdd,Nat.reduceSub,Nat.reduceMul,Nat.reduceMod,Nat.reduceDiv,Q0,U,en1,hln,Cg,eK]
      · rw [MN (by omega) (by omega), List.all_eq_true]
        intro x hx
        rw [List.drop_zero] at h1
        rw [h1 x hx]; rfl
    · refine ⟨r, ?_, by omega, ?_⟩
      · have eK := h3 (999999999 - l.length)
        rw [show 999999999 - l.length+l.length+1=999999999+1 by omega, BN] at eK
        simp only [Q0] at eK
        rw [call2_at, show B0 ⟨.d0, .d10, .d0⟩ tab=some x160 from rfl, x160_L, x160L]
        simp (disch := omega) only [qa,g0,g1,g2,g3,g4,g5,g6,g7,g8,g9,Bb,B9,B7,Bd,Bq,Bi,Bt,Bk,Bl,Bp,w0,w1,w2,w3,w4,w5,w6,w7,w8,w9,Bc,Ba,B5,Bo,Be,Bm,Br,Bs,Bj,Bf,Mk,Nat.reduceAdd,Nat.reduceSub,Nat.reduceMul,Nat.reduceMod,Nat.reduceDiv,Q0,U,en1,hln,Cg,eK]
      · rw [Ka (by omega) (by omega), decide_eq_false (by omega)]
        rw [List.drop_zero] at hy
        rw [Bool.eq_false_iff]
        intro hall
        have := List.all_eq_true.1 hall y hy
        rw [h1] at this; cases this
  obtain ⟨r, e1, hr, e2⟩ := key
  refine ⟨A, n.up.up, ?_, by omega, by omega, a3, fun hf q hq => by rw [←hA, Aq (by omega), Aq (by omega)]; exact hf q (by omega)⟩
  have e3:Ak tab (m+3) ⟨.d0, .d8, .d14⟩ [lv, .fn 143 [.ptr n 0, .ptr n.up 0]] A n.up.up = .rv (.bool (!Dz .i64 r 0)) A n.up.up := by
    rw [call2_at, show B0 ⟨.d0, .d8, .d14⟩ tab=some x142 from rfl, x142]
    simp (disch := omega) only [qa,g0,g1,g2,g3,g4,g5,g6,g7,g8,g9,Bb,B9,B7,Bd,Bq,Bi,Bt,Bk,Bl,Bp,w0,w1,w2,w3,w4,w5,w6,w7,w8,w9,Bc,Ba,B5,Bo,Be,Bm,Br,Bs,Bj,Bf,Mk,Nat.reduceAdd,Nat.reduceSub,Nat.reduceMul,Nat.reduceMod,Nat.reduceDiv,Q0,U,en1,e1]
  rw [call2_at, show B0 ⟨.d0, .d6, .d9⟩ tab=some x105 from rfl, x105]
  simp (disch := omega) only [qa,g0,g1,g2,g3,g4,g5,g6,g7,g8,g9,Bb,B9,B7,Bd,Bq,Bi,Bt,Bk,Bl,Bp,w0,w1,w2,w3,w4,w5,w6,w7,w8,w9,Bc,Ba,B5,Bo,Be,Bm,Br,Bs,Bj,Bf,Mk,Nat.reduceAdd,Nat.reduceSub,Nat.reduceMul,Nat.reduceMod,Nat.reduceDiv,Q0,U,en0,bI,hA,e3,e2,Bool.not_not]
/-- A tenant that may be, but for its quota. -/
structure Good (t:Ten):Prop where
  i:t.id<4294967296
  e1:1≤t.ep
  e2:t.ep≤1099511627776
  n1:1≤t.nx
  n2:t.nx≤1099511627776
  s1:1≤t.ns
  s2:t.ns≤1099511627776
  q:t.qu<18446744073709551616
  l:t.segs.length≤60
  r:∀ s∈t.segs, 1≤s∧s<t.ns
  o:t.segs.Pairwise (· < ·)
theorem outI_pos {a b x:Nat} (ha:a<4611686018427387904) (hb:b<4611686018427387904) (hx:x<4611686018427387904):outI a b x=(decide (x<a) || decide (b<x)) := by
  unfold outI; rw [Ka (by omega) (by omega), Ka (by omega) (by omega)]
theorem outI_q {q:Nat} (hq:q<18446744073709551616):(!outI 1000 65536 q)=decide (1000≤q∧q≤65536) := by
  unfold outI
  rcases Nat.lt_or_ge q 9223372036854775808 with h | h
  · rw [Ka h (by omega), Ka (by omega) h]
    by_cases h1:q<1000
    · rw [decide_eq_true h1, show decide (1000≤q∧q≤65536)=false from decide_eq_false (by omega)]; rfl
    · by_cases h2:65536<q
      · rw [decide_eq_true h2, show decide (1000≤q∧q≤65536)=false from decide_eq_false (by omega), Bool.or_true]; rfl
      · rw [decide_eq_false h1, decide_eq_false h2, show decide (1000≤q∧q≤65536)=true from decide_eq_true (by omega)]; rfl
  · rw [MN h (by omega), show decide (1000≤q∧q≤65536)=false from decide_eq_false (by omega)]; rfl
noncomputable def maB (c:Ei):S->Heap->K4->R := fun t h n=>g3 t fun z19=>g1 t fun z1a=>Am 5 z1a fun z1b=>Av z1b h fun z1c=>AJ z1c fun z1d=>AO z19 z1d fun z1e=>AZ z1e (Ah 1 (AX (Am 5 z1a AD) fun z1f=>AX (Av z1f h AD) fun z1g=>mV z19 fun z1h=>AX (B3 z1h (iI 1) AD) fun z1i=>AX (AG 1 z1g z1i AD) fun z1j=>AX (Av z1j h AD) fun z1k=>AX (Am 5 z1a AD) fun z1l=>AX (Av z1l h AD) fun z1m=>mV z19 fun z1n=>AX (AG 1 z1m z1n AD) fun z1o=>AX (Av z1o h AD) fun z1p=>AX (CC z1k z1p AD) fun z1q=>AZ z1q (w2 t (.bool false) fun t=>rT t h n)<|nR t h n) fun t h n=>g3 t fun z1r=>AM z1r (iI 1) fun z1s=>w3 t z1s fun t=>nR t h n)<|.ok (.exit 0) t h n
noncomputable def x90L:Ent := .code en3 (fun c t h n=>g0 t fun z1=>Dv z1 h n fun z2 h n=>Am 1 z2 fun z3=>Av z3 h fun z4=>Cb z4 (iL 1099511627776) fun z5=>Bu false z5 h n (fun k=>Am 3 z2 fun v=>k v h n) fun z6 h n=>Bu false z5 h n (fun k=>Av z6 h fun v=>k v h n) fun z7 h n=>Bu false z5 h n (fun k=>Cb z7 (iL 1099511627776) fun v=>k v h n) fun z8 h n=>AF z5 (.bool true) z8 fun z9=>Bu false z9 h n (fun k=>Am 1 z2 fun v=>k v h n) fun za h n=>Bu false z9 h n (fun k=>Av za h fun v=>k v h n) fun zb h n=>Bu false z9 h n (fun k=>Bw .i64 zb fun v=>k v h n) fun zc h n=>Bu false z9 h n (fun k=>Am 3 z2 fun v=>k v h n) fun zd h n=>Bu false z9 h n (fun k=>Av zd h fun v=>k v h n) fun ze h n=>Bu false z9 h n (fun k=>Bw .i64 ze fun v=>k v h n) fun zf h n=>Bu false z9 h n (fun k=>Am 4 z2 fun v=>k v h n) fun zg h n=>Bu false z9 h n (fun k=>Av zg h fun v=>k v h n) fun zh h n=>Bu false z9 h n (fun k=>Ax 0 zc [(iI 0),(iI 0),(iI 0)] fun zi=>Ax 1 zf zi fun zj=>Ax 2 zh zj fun zk=>Cx false 3 1 zk h n k) fun zl h n=>Bu false z9 h n (fun k=>Ag (c ⟨.d0,.d6,.d9⟩ [(iI 1),(iI 1099511627776),zl] h n) k) fun zm h n=>Bu false z9 h n (fun k=>Cd zm fun v=>k v h n) fun zn h n=>AF z9 (.bool true) zn fun zo=>Bu false zo h n (fun k=>Am 2 z2 fun v=>k v h n) fun zp h n=>Bu false zo h n (fun k=>Av zp h fun v=>k v h n) fun zq h n=>Bu false zo h n (fun k=>Ax 0 zq [(iI 0)] fun zr=>Cx false 1 1 zr h n k) fun zs h n=>Bu false zo h n (fun k=>Ag (c ⟨.d0,.d6,.d9⟩ [(iI 1000),(iI 65536),zs] h n) k) fun zt h n=>Bu false zo h n (fun k=>Cd zt fun v=>k v h n) fun zu h n=>AF zo (.bool true) zu fun zv=>Bu false zv h n (fun k=>Am 5 z2 fun v=>k v h n) fun zw h n=>Bu false zv h n (fun k=>Av zw h fun v=>k v h n) fun zx h n=>Bu false zv h n (fun k=>AJ zx fun v=>k v h n) fun zy h n=>Bu false zv h n (fun k=>Cb zy (iI 60) fun v=>k v h n) fun zz h n=>AF zv (.bool true) zz fun z10=>Bu false z10 h n (fun k=>Am 4 z2 fun v=>k v h n) fun z11 h n=>Bu false z10 h n (fun k=>Av z11 h fun v=>k v h n) fun z12 h n=>Bu false z10 h n (fun k=>B3 z12 (iI 1) fun v=>k v h n) fun z13 h n=>Bu false z10 h n (fun k=>Am 5 z2 fun v=>k v h n) fun z14 h n=>Bu false z10 h n (fun k=>Av z14 h fun v=>k v h n) fun z15 h n=>Bu false z10 h n (fun k=>Ag (c ⟨.d0,.d6,.d9⟩ [(iI 1),z13,z15] h n) k) fun z16 h n=>Bu false z10 h n (fun k=>Cd z16 fun v=>k v h n) fun z17 h n=>AF z10 (.bool true) z17 fun z18=>AZ z18 (w1 t z2 fun t=>w2 t (.bool false) fun t=>rT t h n)<|Ah 0 (w1 t z2 fun t=>w2 t (.bool false) fun t=>w3 t (iI 1) fun t=>B8 (maB c) t h n) fun t h n=>w2 t (.bool true) fun t=>rT t h n) (fun t h n=>g2 t fun a0=>.rv a0 h n)
theorem x90_L:x90=x90L := rfl
theorem ma_loop {m:Nat} {h:Heap} {n p:K4} {av:List K4} {t:Ten} {sv x0:V} (hp:A8 p h=some (.c (.l [.int .u32 t.id, .int .u64 t.ep, .int .i64 t.qu, .int .u64 t.nx, .int .i64 t.ns, sv]) false none)) (H:LS h n av 1 sv (t.segs.map (V.int .i64)) t.segs.length) (G:Good t) :
    ∀ (j i:Nat), i+j=t.segs.length->1≤i →
      ∀ K, Cr (maB (Ak tab m)) (K+j+1) (.mk (.mk x0 (.ptr p 0) (.bool false) (.int .i64 i)) Q0 Q0 Q0 Q0 Q0 Q0 Q0) h n = .ok (.exit 0) (.mk (.mk x0 (.ptr p 0) (.bool false) (.int .i64 t.segs.length)) Q0 Q0 Q0 Q0 Q0 Q0 Q0) h n := by
  have hl := G.l
  have hln := H.len (by omega)
  intro j
  induction j with
  | zero =>
    intro i hi h1 K
    obtain rfl:i=t.segs.length := by omega
    rw [BN]
    unfold maB
    simp (disch := omega) only [qa,g0,g1,g2,g3,g4,g5,g6,g7,g8,g9,Bb,B9,B7,Bd,Bq,Bi,Bt,Bk,Bl,Bp,w0,w1,w2,w3,w4,w5,w6,w7,w8,w9,Bc,Ba,B5,Bo,Be,Bm,Br,Bs,Bj,Bf,Mk,Nat.reduceAdd,Nat.reduceSub,Nat.reduceMul,Nat.reduceMod,Nat.reduceDiv,Q0,U,hp,hln]
  | succ j ih =>
    intro i hi h1 K
    have hil:i<t.segs.length := by omega
    obtain ⟨p1, o1, e1, e2⟩ := H.at1 (i := i - 1) (by omega) (by omega) (x := .int .i64 t.segs[i - 1]) (by simp; try exact ⟨_, List.getElem?_eq_getElem (by omega), rfl⟩)
    obtain ⟨p2, o2, e3, e4⟩ := H.at1 (i := i) (by omega) (by omega) (x := .int .i64 t.segs[i]) (by simp [hil])
    have k1 := (G.r _ (List.getElem_mem (show i - 1<t.segs.length by omega))).2
    have k2 := (G.r _ (List.getElem_mem hil)).2
    have k3:t.segs[i - 1]<t.segs[i] := List.pairwise_iff_getElem.1 G.o (i - 1) i (by omega) hil (by omega)
    have gs := G.s2
    rw [BN, show K+(j+1)=K+j+1 by omega, ←ih (i+1) (by omega) (by omega) K]
    generalize Cr (maB (Ak tab m)) (K+j+1)=G'
    generalize t.segs[i - 1]=a at *
    generalize t.segs[i]=b at *
    unfold maB
    simp (disch := omega) only [qa,g0,g1,g2,g3,g4,g5,g6,g7,g8,g9,Bb,B9,B7,Bd,Bq,Bi,Bt,Bk,Bl,Bp,w0,w1,w2,w3,w4,w5,w6,w7,w8,w9,Bc,Ba,B5,Bo,Be,Bm,Br,Bs,Bj,Bf,Mk,Nat.reduceAdd,Nat.reduceSub,Nat.reduceMul,Nat.reduceMod,Nat.reduceDiv,Q0,U,hp,hln,e1,e2,e3,e4]
theorem may_ok {m:Nat} {h:Heap} {n:K4} {av:List K4} {t:Ten} {sv:V} (H:LS h n av 1 sv (t.segs.map (V.int .i64)) t.segs.length) (G:Good t) (hn:n.toN<63000) :
    ∃ h' n', Ak tab (m+5) ⟨.d0, .d5, .d10⟩ [.agg [.int .u32 t.id, .int .u64 t.ep, .int .i64 t.qu, .int .u64 t.nx, .int .i64 t.ns, sv]] h n = .rv (.bool (decide (1000≤t.qu∧t.qu≤65536))) h' n'∧n.toN≤n'.toN∧n'.toN≤n.toN+10∧(∀ q:K4, q.toN<n.toN->A8 q h'=A8 q h)∧(Al h n->Al h' n') := by
  have ⟨g1', g2', g3', g4', g5', g6', g7', g8'⟩:t.ep≤1099511627776∧t.nx≤1099511627776∧t.ns≤1099511627776∧1≤t.ep∧1≤t.nx∧1≤t.ns∧t.segs.length≤60∧t.qu<18446744073709551616 := ⟨G.e2, G.n2, G.s2, G.e1, G.n1, G.s1, G.l, G.q⟩
  have u1 := K4.up_toN (p := n) (by omega)
  have u2 := K4.up_toN (p := n.up) (by omega)
  generalize hA:Ac n h (some (.c (.l [.int .u32 t.id, .int .u64 t.ep, .int .i64 t.qu, .int .u64 t.nx, .int .i64 t.ns, sv]) false none))=A
  have a1:A8 n A=some (.c (.l [.int .u32 t.id, .int .u64 t.ep, .int .i64 t.qu, .int .u64 t.nx, .int .i64 t.ns, sv]) false none) := by rw [←hA, A7]
  have a2:∀ q:K4, q.toN<n.toN->A8 q A=A8 q h := fun q hq => by rw [←hA, Aj hq]
  have a3:Al h n->Al A n.up := fun hf q hq => by rw [←hA, Aq (by omega)]; exact hf q (by omega)
  -- the numbers
  generalize hB:Ac n.up A (some (.c (.l [.int .i64 t.ep, .int .i64 t.nx, .int .i64 t.ns]) false none))=B
  have b1:LS B n.up.up [] 1 (.sl n.up 0 3 3 true 1) ([t.ep, t.nx, t.ns].map (V.int .i64)) [t.ep, t.nx, t.ns].length := .inr ⟨n.up, 0, 3, true, _, false, none, rfl, by rw [←hB, A7], by simp, by simp, by omega, fun q hq => by cases hq⟩
  have b2:∀ q:K4, q.toN≤n.toN->A8 q B=A8 q A := fun q hq => by rw [←hB, Aj (by omega)]
  have b3:Al A n.up->Al B n.up.up := fun hf q hq => by rw [←hB, Aq (by omega)]; exact hf q (by omega)
  obtain ⟨h1, n1, e1, c1, c2, f1, r1⟩ := in_ok (m := m) (a := 1) (b := 1099511627776) b1 (by simp) (by omega)
  have i1:([t.ep, t.nx, t.ns].all fun x => !outI 1 1099511627776 x)=true := by
    simp (disch := omega) only [List.all_cons,List.all_nil,outI_pos,decide_eq_false,Bool.or_false,Bool.not_false,Bool.and_true]
  rw [i1] at e1
  have u3 := K4.up_toN (p := n1) (by omega)
  -- the quota
  generalize hC:Ac n1 h1 (some (.c (.l [.int .i64 t.qu]) false none))=C
  have d1:LS C n1.up [] 1 (.sl n1 0 1 1 true 1) ([t.qu].map (V.int .i64)) [t.qu].length := .inr ⟨n1, 0, 1, true, _, false, none, rfl, by rw [←hC, A7], by simp, by simp, by omega, fun q hq => by cases hq⟩
  have d2:∀ q:K4, q.toN<n1.toN->A8 q C=A8 q h1 := fun q hq => by rw [←hC, Aj hq]
  have d3:Al h1 n1->Al C n1.up := fun hf q hq => by rw [←hC, Aq (by omega)]; exact hf q (by omega)
  obtain ⟨h2, n2, e2, c3, c4, f2, r2⟩ := in_ok (m := m) (a := 1000) (b := 65536) d1 (by simp) (by omega)
  have i2:([t.qu].all fun x => !outI 1000 65536 x)=decide (1000≤t.qu∧t.qu≤65536) := by
    simp only [List.all_cons,List.all_nil,Bool.and_true,outI_q g8']
  rw [i2] at e2
  have k1:∀ q:K4, q.toN≤n.toN->A8 q h1=A8 q A := fun q hq => (f1 q (by omega)).trans (b2 q hq)
  have k2:∀ q:K4, q.toN≤n.toN->A8 q h2=A8 q A := fun q hq => (f2 q (by omega)).trans ((d2 q (by omega)).trans (k1 q hq))
  have p1 := (k1 n (Nat.le_refl _)).trans a1
  have p2 := (k2 n (Nat.le_refl _)).trans a1
  have pB := (b2 n (Nat.le_refl _)).trans a1
  have pC := (d2 n (by omega)).trans p1
  have H2:LS h2 n2 av 1 sv (t.segs.map (V.int .i64)) t.segs.length := H.more (by omega) fun q hq => (k2 q (by omega)).trans (a2 q hq)
  have hln := H2.len (by omega)
  have hsl := HS (a := t.ns) (b := 1) g6' (by omega)
  obtain ⟨h3, n3, e3, c5, c6, f3, r3⟩ := in_ok (m := m) (n := n2) (a := 1) (b := t.ns - 1) H2 (by omega) (by omega)
  have i3:(t.segs.all fun x => !outI 1 (t.ns - 1) x)=true := by
    rw [List.all_eq_true]
    intro x hx
    obtain ⟨x1, x2⟩ := G.r x hx
    rw [outI_pos (by omega) (by omega) (by omega), decide_eq_false (by omega), decide_eq_false (by omega)]; rfl
  rw [i3] at e3
  have p3 := (f3 n (by omega)).trans p2
  have H3:LS h3 n3 av 1 sv (t.segs.map (V.int .i64)) t.segs.length := H2.more (by omega) f3
  have hln3 := H3.len (by omega)
  rw [show m+4=m+4 from rfl] at *
  by_cases hq:1000≤t.qu∧t.qu≤65536
  · rw [decide_eq_true hq] at e2 ⊢
    refine ⟨h3, n3, ?_, by omega, by omega, fun q hq => (f3 q (by omega)).trans ((k2 q (by omega)).trans (a2 q hq)), fun hf => r3 (r2 (d3 (r1 (b3 (a3 hf)))))⟩
    have eK:∀ (x0:V), Cr (maB (Ak tab (m+4))) (999999999+1) (.mk (.mk x0 (.ptr n 0) (.bool false) (.int .i64 1)) Q0 Q0 Q0 Q0 Q0 Q0 Q0) h3 n3 = .ok (.exit 0) (.mk (.mk x0 (.ptr n 0) (.bool false) (.int .i64 (max 1 t.segs.length))) Q0 Q0 Q0 Q0 Q0 Q0 Q0) h3 n3 := fun x0 => by
      rcases Nat.eq_zero_or_pos t.segs.length with h0 | h0
      · rw [h0] at hln3 ⊢
        rw [BN]
        unfold maB
        simp (disch := omega) only [qa,g0,g1,g2,g3,g4,g5,g6,g7,g8,g9,Bb,B9,B7,Bd,Bq,Bi,Bt,Bk,Bl,Bp,w0,w1,w2,w3,w4,w5,w6,w7,w8,w9,Bc,Ba,B5,Bo,Be,Bm,Br,Bs,Bj,Bf,Mk,Nat.reduceAdd,Nat.reduceSub,Nat.reduceMul,Nat.reduceMod,Nat.reduceDiv,Q0,U,p3,hln3]
        rfl
      · have := ma_loop (m := m+4) (x0 := x0) p3 H3 G (t.segs.length - 1) 1 (by omega) (Nat.le_refl _) (999999999 - (t.segs.length - 1))
        rw [show 999999999 - (t.segs.length - 1)+(t.segs.length - 1)+1=999999999+1 by omega] at this
        rw [this, Nat.max_eq_right h0]
    have eK := eK (.agg [.int .u32 t.id, .int .u64 t.ep, .int .i64 t.qu, .int .u64 t.nx, .int .i64 t.ns, sv])
    rw [BN] at eK
    simp only [Q0] at eK
    rw [call2_at, show B0 ⟨.d0, .d5, .d10⟩ tab=some x90 from rfl, x90_L, x90L]
    rw [show iL 1099511627776 = .int .u64 1099511627776 from rfl]
    simp (config := {maxSteps := 3000000}) (disch := omega) only [qa,g0,g1,g2,g3,g4,g5,g6,g7,g8,g9,Bb,B9,B7,Bd,Bq,Bi,Bt,Bk,Bl,Bp,w0,w1,w2,w3,w4,w5,w6,w7,w8,w9,Bc,Ba,B5,Bo,Be,Bm,Br,Bs,Bj,Bf,Mk,Nat.reduceAdd,Nat.reduceSub,Nat.reduceMul,Nat.reduceMod,Nat.reduceDiv,Q0,U,en3,hA,a1,pB,cvi_i64_u64,hB,e1,p1,hC,pC,e2,p2,hln,hsl,e3,p3,Cg,eK,FF,FG,EN,EO,DJ]
  · rw [decide_eq_false hq] at e2 ⊢
    refine ⟨h2, n2, ?_, by omega, by omega, fun q hq => (k2 q (by omega)).trans (a2 q hq), fun hf => r2 (d3 (r1 (b3 (a3 hf))))⟩
    rw [call2_at, show B0 ⟨.d0, .d5, .d10⟩ tab=some x90 from rfl, x90_L, x90L]
    rw [show iL 1099511627776 = .int .u64 1099511627776 from rfl]
    simp (config := {maxSteps := 3000000}) (disch := omega) only [qa,g0,g1,g2,g3,g4,g5,g6,g7,g8,g9,Bb,B9,B7,Bd,Bq,Bi,Bt,Bk,Bl,Bp,w0,w1,w2,w3,w4,w5,w6,w7,w8,w9,Bc,Ba,B5,Bo,Be,Bm,Br,Bs,Bj,Bf,Mk,Nat.reduceAdd,Nat.reduceSub,Nat.reduceMul,Nat.reduceMod,Nat.reduceDiv,Q0,U,en3,hA,a1,pB,cvi_i64_u64,hB,e1,p1,hC,pC,e2,p2,hln,hsl,FF,FG,EN,EO,DJ]
def okb (t:Ten):Bool := decide (1000≤t.qu∧t.qu≤65536)
theorem flat_i {ps:List (Ten×V)} {i:Nat} (h:i<ps.length):((flatP ps).drop (i*6)).take 6=[.int .u32 ps[i].1.id, .int .u64 ps[i].1.ep, .int .i64 ps[i].1.qu, .int .u64 ps[i].1.nx, .int .i64 ps[i].1.ns, ps[i].2] := by
  have e:ps.take i++ps[i]::ps.drop (i+1)=ps := by rw [←List.drop_eq_getElem_cons h, List.take_append_drop]
  have := flat_six (done := ps.take i) (rest := ps.drop (i+1)) (x := ps[i]) (i := i) (by rw [List.length_take]; omega)
  rw [e] at this; exact this
theorem flat_ij {ps:List (Ten×V)} {i:Nat} (h:i<ps.length) (j:Nat) (hj:j<6):(flatP ps)[i*6+j]? = (ps[i].1.c ps[i].2)[j]? := by
  have e:ps.take i++ps[i]::ps.drop (i+1)=ps := by rw [←List.drop_eq_getElem_cons h, List.take_append_drop]
  have := flat_at (done := ps.take i) (rest := ps.drop (i+1)) (x := ps[i]) (i := i) (by rw [List.length_take]; omega) j hj
  rw [e] at this; exact this
/-- The element's place, the tenant, its name. -/
theorem TL.ix {h:Heap} {n:K4} {av:List K4} {v:V} {ps:List (Ten×V)} (H:TL h n av v ps) {i:Nat} (hi:i<ps.length) (h2:i<9223372036854775808) :
    ∃ p o, (∀ κ:V->R, AG 6 v (.int .i64 i) κ=κ (.ptr p o))∧(∀ κ:V->R, KC (A8 p h) 6 o κ=κ (.agg [.int .u32 ps[i].1.id, .int .u64 ps[i].1.ep, .int .i64 ps[i].1.qu, .int .u64 ps[i].1.nx, .int .i64 ps[i].1.ns, ps[i].2])) ∧
      (∀ κ:V->R, XD (A8 p h) o κ=κ (.int .u32 ps[i].1.id)) := by
  obtain ⟨p, o, e1, e2, e3⟩ := H.1.ix hi h2
  exact ⟨p, o, e1, fun κ => by rw [e2, flat_i hi], fun κ => e3 0 _ κ (by rw [flat_ij hi 0 (by decide)]; rfl)⟩
noncomputable def myB (c:Ei):S->Heap->K4->R := fun t h n=>g4 t fun z3=>g3 t fun z4=>AO z3 z4 fun z5=>AZ z5 (Ah 1 (g2 t fun z6=>AG 6 z6 z3 fun z7=>C0 6 z7 h fun z8=>DE (.l [(iW 0),(iL 0),(iI 0),(iL 0),(iI 0),(.nil .sl)]) h n fun z9 h n=>Di 6 z9 z8 h fun h=>AX (C0 6 z9 h AD) fun za=>FL (Ag (c ⟨.d0,.d5,.d10⟩ [za] h n) .rv) fun zb h n=>AX (Cd zb AD) fun zc=>mV zc fun zd=>OI false zd (fun k=>AX (AD z3) k) fun ze=>OI false zd (fun k=>AX (Cb ze (iI 0) AD) k) fun zf=>OI false zd (fun k=>AX (AD zf) k) fun zg=>g0 t fun zh=>gA zg (AD zh) fun zi=>gA zg (AD z3) fun zj=>gA zg (B3 zj (iI 1) AD) fun zk=>gA zg (AG 6 zi zk AD) fun zl=>gA zg (Am 0 zl AD) fun zm=>gA zg (Av zm h AD) fun zn=>gA zg (Am 0 z9 AD) fun zo=>gA zg (Av zo h AD) fun zp=>gA zg (CC zn zp AD) fun zq=>OI false zd (fun k=>AX (AF zg zq (.bool false) AD) k) fun zr=>AX (AF zd (.bool true) zr AD) fun zs=>AZ zs (w1 t (.bool false) fun t=>rT t h n)<|nR t h n) fun t h n=>g4 t fun zt=>AM zt (iI 1) fun zu=>w4 t zu fun t=>nR t h n)<|.ok (.exit 0) t h n
noncomputable def x67L:Ent := .code en3 (fun c t h n=>g0 t fun z1=>AJ z1 fun z2=>Ah 0 (w1 t (.bool false) fun t=>w2 t z1 fun t=>w3 t z2 fun t=>w4 t (iI 0) fun t=>B8 (myB c) t h n) fun t h n=>g0 t fun zv=>AJ zv fun zw=>FH zw (iI 6) fun zx=>w1 t zx fun t=>rT t h n) (fun t h n=>g1 t fun a0=>.rv a0 h n)
theorem x67_L:x67=x67L := rfl
theorem my_loop {m:Nat} {av:List K4} {v:V} {ps:List (Ten×V)} (hk:ps.length≤100) (G:∀ x∈ps, Good x.1) (O:(ps.map fun x => x.1.id).Pairwise (· < ·)) :
    ∀ (j i:Nat) (h:Heap) (n:K4), i+j=ps.length->TL h n av v ps->n.toN+j*20<60000 →
    ∃ h' n', n.toN≤n'.toN∧n'.toN≤n.toN+j*11∧(∀ q:K4, q.toN<n.toN->A8 q h'=A8 q h)∧(Al h n->Al h' n') ∧
      (((ps.drop i).all (fun x => okb x.1)=true ∧ ∀ K, Cr (myB (Ak tab (m+5))) (K+j+1) (.mk (.mk v (.bool false) v (.int .i64 ps.length)) (.mk (.int .i64 i) Ar Ar Ar) Q0 Q0 Q0 Q0 Q0 Q0) h n = .ok (.exit 0) (.mk (.mk v (.bool false) v (.int .i64 ps.length)) (.mk (.int .i64 ps.length) Ar Ar Ar) Q0 Q0 Q0 Q0 Q0 Q0) h' n') ∨
        ((ps.drop i).all (fun x => okb x.1)=false ∧ ∃ i', ∀ K, Cr (myB (Ak tab (m+5))) (K+j+1) (.mk (.mk v (.bool false) v (.int .i64 ps.length)) (.mk (.int .i64 i) Ar Ar Ar) Q0 Q0 Q0 Q0 Q0 Q0) h n = .ok .ret (.mk (.mk v (.bool false) v (.int .i64 ps.length)) (.mk (.int .i64 i') Ar Ar Ar) Q0 Q0 Q0 Q0 Q0 Q0) h' n')) := by
  intro j
  induction j with
  | zero =>
    intro i h n hi H hn
    obtain rfl:i=ps.length := by omega
    refine ⟨h, n, by omega, by omega, fun q _ => rfl, fun h => h, .inl ⟨by rw [List.drop_length]; rfl, fun K => ?_⟩⟩
    rw [BN]
    unfold myB
    simp (disch := omega) only [qa,g0,g1,g2,g3,g4,g5,g6,g7,g8,g9,Bb,B9,B7,Bd,Bq,Bi,Bt,Bk,Bl,Bp,w0,w1,w2,w3,w4,w5,w6,w7,w8,w9,Bc,Ba,B5,Bo,Be,Bm,Br,Bs,Bj,Bf,Mk,Nat.reduceAdd,Nat.reduceSub,Nat.reduceMul,Nat.reduceMod,Nat.reduceDiv,Q0,U]
  | succ j ih =>
    intro i h n hi H hn
    have hil:i<ps.length := by omega
    have u1 := K4.up_toN (p := n) (by omega)
    have Gi := G _ (List.getElem_mem hil)
    have Li := H.2 _ (List.getElem_mem hil)
    have hd:ps.drop i=ps[i]::ps.drop (i+1) := List.drop_eq_getElem_cons hil
    obtain ⟨p, o, e1, e2, _⟩ := H.ix hil (by omega)
    generalize hA:Ac n h (some (.c (.l [.int .u32 ps[i].1.id, .int .u64 ps[i].1.ep, .int .i64 ps[i].1.qu, .int .u64 ps[i].1.nx, .int .i64 ps[i].1.ns, ps[i].2]) false none))=A
    have a1:A8 n A=some (.c (.l [.int .u32 ps[i].1.id, .int .u64 ps[i].1.ep, .int .i64 ps[i].1.qu, .int .u64 ps[i].1.nx, .int .i64 ps[i].1.ns, ps[i].2]) false none) := by rw [←hA, A7]
    have a2:∀ q:K4, q.toN<n.toN->A8 q A=A8 q h := fun q hq => by rw [←hA, Aj hq]
    have a3:Al h n->Al A n.up := fun hf q hq => by rw [←hA, Aq (by omega)]; exact hf q (by omega)
    obtain ⟨h1, n1, e3, b1, b2, f1, r1⟩ := may_ok (m := m) (Li.more (h' := A) (n' := n.up) (by omega) a2) Gi (by omega)
    have f1':∀ q:K4, q.toN<n.toN->A8 q h1=A8 q h := fun q hq => (f1 q (by omega)).trans (a2 q hq)
    have p1 := (f1 n (by omega)).trans a1
    have H1:TL h1 n1 av v ps := H.more (by omega) f1'
    have hid := Gi.i
    cases hok:decide (1000≤ps[i].1.qu∧ps[i].1.qu≤65536) with
    | false =>
      rw [hok] at e3
      refine ⟨h1, n1, by omega, by omega, f1', fun hf => r1 (a3 hf), .inr ⟨by rw [hd, List.all_cons]; unfold okb; rw [hok]; rfl, i, fun K => ?_⟩⟩
      rw [BN]
      unfold myB
      simp (config := {maxSteps := 3000000}) (disch := omega) only [qa,g0,g1,g2,g3,g4,g5,g6,g7,g8,g9,Bb,B9,B7,Bd,Bq,Bi,Bt,Bk,Bl,Bp,w0,w1,w2,w3,w4,w5,w6,w7,w8,w9,Bc,Ba,B5,Bo,Be,Bm,Br,Bs,Bj,Bf,Mk,Nat.reduceAdd,Nat.reduceSub,Nat.reduceMul,Nat.reduceMod,Nat.reduceDiv,Q0,U,e1,e2,H5,hA,a1,Et,e3,FF,FG,EN,EO,DJ,D9,Nat.add_zero]
    | true =>
      rw [hok] at e3
      have hid2:1≤i->∃ p' o', (∀ κ:V->R, AG 6 v (.int .i64 (i - 1)) κ=κ (.ptr p' o')) ∧ ∃ d, (∀ κ:V->R, XD (A8 p' h1) o' κ=κ (.int .u32 d))∧d<ps[i].1.id := fun hi1 => by
        obtain ⟨p', o', k1, _, k3⟩ := H1.ix (i := i - 1) (by omega) (by omega)
        refine ⟨p', o', k1, _, k3, ?_⟩
        have := List.pairwise_iff_getElem.1 O (i - 1) i (by simp; omega) (by simp; omega) (by omega)
        simpa using this
      obtain ⟨h2, n2, b3, b4, f2, r2, fin⟩ := ih (i+1) h1 n1 (by omega) H1 (by omega)
      refine ⟨h2, n2, by omega, by omega, fun q hq => (f2 q (by omega)).trans (f1' q hq), fun hf => r2 (r1 (a3 hf)), ?_⟩
      have step:∀ K, Cr (myB (Ak tab (m+5))) (K+(j+1)+1) (.mk (.mk v (.bool false) v (.int .i64 ps.length)) (.mk (.int .i64 i) Ar Ar Ar) Q0 Q0 Q0 Q0 Q0 Q0) h n=Cr (myB (Ak tab (m+5))) (K+j+1) (.mk (.mk v (.bool false) v (.int .i64 ps.length)) (.mk (.int .i64 (i+1)) Ar Ar Ar) Q0 Q0 Q0 Q0 Q0 Q0) h1 n1 := fun K => by
        rw [BN, show K+(j+1)=K+j+1 by omega]
        generalize Cr (myB (Ak tab (m+5))) (K+j+1)=G'
        rcases Nat.eq_zero_or_pos i with h0 | h0
        · subst h0
          unfold myB
          simp (config := {maxSteps := 3000000}) (disch := omega) only [qa,g0,g1,g2,g3,g4,g5,g6,g7,g8,g9,Bb,B9,B7,Bd,Bq,Bi,Bt,Bk,Bl,Bp,w0,w1,w2,w3,w4,w5,w6,w7,w8,w9,Bc,Ba,B5,Bo,Be,Bm,Br,Bs,Bj,Bf,Mk,Nat.reduceAdd,Nat.reduceSub,Nat.reduceMul,Nat.reduceMod,Nat.reduceDiv,Q0,U,e1,e2,H5,hA,a1,Et,e3,FF,FG,EN,EO,DJ,D9,Nat.add_zero]
        · obtain ⟨p', o', k1, d, k2, k3⟩ := hid2 h0
          unfold myB
          simp (config := {maxSteps := 3000000}) (disch := omega) only [qa,g0,g1,g2,g3,g4,g5,g6,g7,g8,g9,Bb,B9,B7,Bd,Bq,Bi,Bt,Bk,Bl,Bp,w0,w1,w2,w3,w4,w5,w6,w7,w8,w9,Bc,Ba,B5,Bo,Be,Bm,Br,Bs,Bj,Bf,Mk,Nat.reduceAdd,Nat.reduceSub,Nat.reduceMul,Nat.reduceMod,Nat.reduceDiv,Q0,U,e1,e2,H5,hA,a1,Et,e3,k1,k2,p1,Pi,FF,FG,EN,EO,DJ,D9,Nat.add_zero]
      rw [hd, List.all_cons]
      have hob:okb ps[i].1=true := hok
      rw [hob, Bool.true_and]
      rcases fin with ⟨k1, k2⟩ | ⟨k1, i', k2⟩
      · exact .inl ⟨k1, fun K => (step K).trans (k2 K)⟩
      · exact .inr ⟨k1, i', fun K => (step K).trans (k2 K)⟩
theorem may_all {m:Nat} {h:Heap} {n:K4} {av:List K4} {v:V} {ps:List (Ten×V)} (H:TL h n av v ps) (hk:ps.length≤6) (G:∀ x∈ps, Good x.1) (O:(ps.map fun x => x.1.id).Pairwise (· < ·)) (hn:n.toN<59000) :
    ∃ h' n', Ak tab (m+6) ⟨.d0, .d4, .d3⟩ [v] h n = .rv (.bool (ps.all fun x => okb x.1)) h' n'∧n.toN≤n'.toN∧n'.toN≤n.toN+66∧(∀ q:K4, q.toN<n.toN->A8 q h'=A8 q h)∧(Al h n->Al h' n') := by
  obtain ⟨h1, n1, b1, b2, f1, r1, fin⟩ := my_loop (m := m) (v := v) (by omega) G O ps.length 0 h n (by omega) H (by omega)
  have hln := H.1.len (by omega)
  refine ⟨h1, n1, ?_, b1, by omega, f1, r1⟩
  rw [List.drop_zero] at fin
  rcases fin with ⟨k1, k2⟩ | ⟨k1, i', k2⟩
  · have eK := k2 (999999999 - ps.length)
    rw [show 999999999 - ps.length+ps.length+1=999999999+1 by omega, BN] at eK
    simp only [Q0] at eK
    rw [k1, call2_at, show B0 ⟨.d0, .d4, .d3⟩ tab=some x67 from rfl, x67_L, x67L]
    simp (disch := omega) only [qa,g0,g1,g2,g3,g4,g5,g6,g7,g8,g9,Bb,B9,B7,Bd,Bq,Bi,Bt,Bk,Bl,Bp,w0,w1,w2,w3,w4,w5,w6,w7,w8,w9,Bc,Ba,B5,Bo,Be,Bm,Br,Bs,Bj,Bf,Mk,Nat.reduceAdd,Nat.reduceSub,Nat.reduceMul,Nat.reduceMod,Nat.reduceDiv,Q0,U,en3,hln,Cg,eK]
  · have eK := k2 (999999999 - ps.length)
    rw [show 999999999 - ps.length+ps.length+1=999999999+1 by omega, BN] at eK
    simp only [Q0] at eK
    rw [k1, call2_at, show B0 ⟨.d0, .d4, .d3⟩ tab=some x67 from rfl, x67_L, x67L]
    simp (disch := omega) only [qa,g0,g1,g2,g3,g4,g5,g6,g7,g8,g9,Bb,B9,B7,Bd,Bq,Bi,Bt,Bk,Bl,Bp,w0,w1,w2,w3,w4,w5,w6,w7,w8,w9,Bc,Ba,B5,Bo,Be,Bm,Br,Bs,Bj,Bf,Mk,Nat.reduceAdd,Nat.reduceSub,Nat.reduceMul,Nat.reduceMod,Nat.reduceDiv,Q0,U,en3,hln,Cg,eK]
noncomputable def enS (c:Ei):S->Heap->K4->R := fun t h n=>B7 t fun z1p=>B9 t fun z1q=>AO z1p z1q fun z1r=>AZ z1r (Ah 5 (Bb t fun z1s=>AG 1 z1s z1p fun z1t=>Av z1t h fun z1u=>g2 t fun z1v=>Bw .u64 z1u fun z1w=>Ag (c ⟨.d0,.d5,.d5⟩ [z1w,(iI 8)] h n) fun z1x h n=>CA 1 1 z1v z1x h n fun z1y h n=>w2 t z1y fun t=>nR t h n) fun t h n=>B7 t fun z1z=>AM z1z (iI 1) fun z20=>B5 t z20 fun t=>nR t h n)<|.ok (.exit 4) t h n
noncomputable def enR (c:Ei):S->Heap->K4->R := fun t h n=>g2 t fun z1d=>g3 t fun z1e=>Am 5 z1e fun z1f=>Av z1f h fun z1g=>AJ z1g fun z1h=>Bw .u8 z1h fun z1i=>Ax 0 z1i [(iB 0)] fun z1j=>Cx true 1 1 z1j h n fun z1k h n=>CA 1 1 z1d z1k h n fun z1l h n=>Am 5 z1e fun z1m=>Av z1m h fun z1n=>AJ z1n fun z1o=>Ah 4 (w2 t z1l fun t=>Bc t z1n fun t=>Ba t z1o fun t=>B5 t (iI 0) fun t=>B8 ((enS c)) t h n) fun t h n=>nR t h n
noncomputable def enF (c:Ei):S->Heap->K4->R := fun t h n=>g9 t fun z12=>g8 t fun z13=>AO z12 z13 fun z14=>AZ z14 (Ah 3 (g7 t fun z15=>AG 1 z15 z12 fun z16=>Av z16 h fun z17=>g2 t fun z18=>Ag (c ⟨.d0,.d5,.d5⟩ [z17,(iI 8)] h n) fun z19 h n=>CA 1 1 z18 z19 h n fun z1a h n=>w2 t z1a fun t=>nR t h n) fun t h n=>g9 t fun z1b=>AM z1b (iI 1) fun z1c=>w9 t z1c fun t=>nR t h n)<|.ok (.exit 2) t h n
noncomputable def enB (c:Ei):S->Heap->K4->R := fun t h n=>g6 t fun z9=>g5 t fun za=>AO z9 za fun zb=>AZ zb (Ah 1 (g4 t fun zc=>AG 6 zc z9 fun zd=>C0 6 zd h fun ze=>DE (.l [(iW 0),(iL 0),(iI 0),(iL 0),(iI 0),(.nil .sl)]) h n fun zf h n=>Di 6 zf ze h fun h=>g2 t fun zg=>Am 0 zf fun zh=>Av zh h fun zi=>Bw .u64 zi fun zj=>Ag (c ⟨.d0,.d5,.d5⟩ [zj,(iI 4)] h n) fun zk h n=>CA 1 1 zg zk h n fun zl h n=>Am 1 zf fun zm=>Av zm h fun zn=>Am 2 zf fun zo=>Av zo h fun zp=>Bw .u64 zp fun zq=>Am 3 zf fun zr=>Av zr h fun zs=>Am 4 zf fun zt=>Av zt h fun zu=>Bw .u64 zu fun zv=>Ax 0 zn [(iL 0),(iL 0),(iL 0),(iL 0)] fun zw=>Ax 1 zq zw fun zx=>Ax 2 zs zx fun zy=>Ax 3 zv zy fun zz=>Cx false 4 1 zz h n fun z10 h n=>AJ z10 fun z11=>Ah 2 (w2 t zl fun t=>w3 t zf fun t=>w7 t z10 fun t=>w8 t z11 fun t=>w9 t (iI 0) fun t=>B8 ((enF c)) t h n) (enR c)) fun t h n=>g6 t fun z21=>AM z21 (iI 1) fun z22=>w6 t z22 fun t=>nR t h n)<|.ok (.exit 0) t h n
noncomputable def x68L:Ent := .code en3 (fun c t h n=>g0 t fun z1=>Ag (c ⟨.d0,.d4,.d3⟩ [z1] h n) fun z2 h n=>Cd z2 fun z3=>AZ z3 (w1 t (.nil .sl) fun t=>rT t h n)<|AJ z1 fun z4=>Bw .u8 z4 fun z5=>Ax 0 z5 [(iB 0)] fun z6=>Cx true 1 1 z6 h n fun z7 h n=>AJ z1 fun z8=>Ah 0 (w1 t (.nil .sl) fun t=>w2 t z7 fun t=>w4 t z1 fun t=>w5 t z8 fun t=>w6 t (iI 0) fun t=>B8 (enB c) t h n) fun t h n=>g2 t fun z23=>w1 t z23 fun t=>rT t h n) (fun t h n=>g1 t fun a0=>.rv a0 h n)
theorem x68_L:x68=x68L := rfl
theorem enF_loop {m:Nat} {P:K4->Prop} {x0 x1 x3 x4 x5 x6 x7 x8 x9 x10 x11 x12 qv:V} {us:List Nat} (hu:∀ u∈us, u<18446744073709551616) (hk:us.length≤100) :
    ∀ (j i:Nat) (h:Heap) (n:K4) (b:V) (bl:List UInt8), i+j=us.length->EX P n h b bl->Wo P h n 1 qv (us.map (V.int .u64)) us.length->(∀ q:K4, n.toN≤q.toN->P q)->bl.length+8*j≤100000->n.toN+j*20<60000 →
    ∃ h' n' b' bl', (∀ K, Cr (enF (Ak tab (m+1))) (K+j+1) (.mk (.mk x0 x1 b x3) (.mk x4 x5 x6 qv) (.mk (.int .i64 us.length) (.int .i64 i) x10 x11) (.mk x12 Ar Ar Ar) Q0 Q0 Q0 Q0) h n = .ok (.exit 2) (.mk (.mk x0 x1 b' x3) (.mk x4 x5 x6 qv) (.mk (.int .i64 us.length) (.int .i64 us.length) x10 x11) (.mk x12 Ar Ar Ar) Q0 Q0 Q0 Q0) h' n')∧EX P n' h' b' bl'∧bl'.length=bl.length+8*j∧n.toN≤n'.toN∧n'.toN≤n.toN+j*17∧(∀ q:K4, q.toN<n.toN->¬ P q->A8 q h'=A8 q h)∧(Al h n->Al h' n') := by
  intro j
  induction j with
  | zero =>
    intro i h n b bl hi O H hP hb hn
    obtain rfl:i=us.length := by omega
    refine ⟨h, n, b, bl, fun K => ?_, O, rfl, by omega, by omega, fun q _ _ => rfl, fun h => h⟩
    rw [BN]
    unfold enF
    simp (disch := omega) only [qa,g0,g1,g2,g3,g4,g5,g6,g7,g8,g9,Bb,B9,B7,Bd,Bq,Bi,Bt,Bk,Bl,Bp,w0,w1,w2,w3,w4,w5,w6,w7,w8,w9,Bc,Ba,B5,Bo,Be,Bm,Br,Bs,Bj,Bf,Mk,Nat.reduceAdd,Nat.reduceSub,Nat.reduceMul,Nat.reduceMod,Nat.reduceDiv,Q0,U]
  | succ j ih =>
    intro i h n b bl hi O H hP hb hn
    have hil:i<us.length := by omega
    have hx := hu _ (List.getElem_mem hil)
    obtain ⟨p, o, e1, e2⟩ := H.ls.at1 hil (by omega) (x := .int .u64 us[i]) (by simp [hil])
    obtain ⟨c1, h1, n1, e3, o1, b1, b2, f1, r1⟩ := put_ok (m := m) (v := us[i]) (k := 8) (n := n) (h := h) (by omega) (by omega) (by omega) (by omega)
    have O1:EX P n1 h1 b bl := O.frame b1 (fun q _ hq => hq) fun q hq _ => f1 q hq
    obtain ⟨b', h2, n2, e4, o2, b3, b4, f2, r2⟩ := Hn O1 o1.src (hP n1 b1) (by rw [putL_len]; omega) (by omega)
    have f12:∀ q:K4, q.toN<n.toN->¬ P q->A8 q h2=A8 q h := fun q hq hp => (f2 q (by omega) hp).trans (f1 q hq)
    obtain ⟨h3, n3, b3', bl3, e5, o3, k3, b5, b6, f3, r3⟩ := ih (i+1) h2 n2 b' (bl++putL us[i] 8) (by omega) o2 (H.frame (by omega) fun q hq hp => ⟨f12 q hq hp, hp⟩) (fun q hq => hP q (by omega)) (by rw [List.length_append, putL_len]; omega) (by omega)
    refine ⟨h3, n3, b3', bl3, fun K => ?_, o3, by rw [k3, List.length_append, putL_len]; omega, by omega, by omega, fun q hq hp => (f3 q (by omega) hp).trans (f12 q hq hp), fun hf => r3 (r2 (r1 hf))⟩
    rw [BN, show K+(j+1)=K+j+1 by omega, ←e5 K]
    generalize Cr (enF (Ak tab (m+1))) (K+j+1)=G'
    generalize us[i]=u at *
    unfold enF
    simp (disch := omega) only [qa,g0,g1,g2,g3,g4,g5,g6,g7,g8,g9,Bb,B9,B7,Bd,Bq,Bi,Bt,Bk,Bl,Bp,w0,w1,w2,w3,w4,w5,w6,w7,w8,w9,Bc,Ba,B5,Bo,Be,Bm,Br,Bs,Bj,Bf,Mk,Nat.reduceAdd,Nat.reduceSub,Nat.reduceMul,Nat.reduceMod,Nat.reduceDiv,Q0,U,e1,e2,e3,e4]
theorem enS_loop {m:Nat} {P:K4->Prop} {x0 x1 x3 x4 x5 x6 x7 x8 x9 x10 x11 x12 qv:V} {us:List Nat} (hu:∀ u∈us, u<9223372036854775808) (hk:us.length≤100) :
    ∀ (j i:Nat) (h:Heap) (n:K4) (b:V) (bl:List UInt8), i+j=us.length->EX P n h b bl->Wo P h n 1 qv (us.map (V.int .i64)) us.length->(∀ q:K4, n.toN≤q.toN->P q)->bl.length+8*j≤100000->n.toN+j*20<60000 →
    ∃ h' n' b' bl', (∀ K, Cr (enS (Ak tab (m+1))) (K+j+1) (.mk (.mk x0 x1 b x3) (.mk x4 x5 x6 x7) (.mk x8 x9 qv (.int .i64 us.length)) (.mk (.int .i64 i) Ar Ar Ar) Q0 Q0 Q0 Q0) h n = .ok (.exit 4) (.mk (.mk x0 x1 b' x3) (.mk x4 x5 x6 x7) (.mk x8 x9 qv (.int .i64 us.length)) (.mk (.int .i64 us.length) Ar Ar Ar) Q0 Q0 Q0 Q0) h' n')∧EX P n' h' b' bl'∧bl'.length=bl.length+8*j∧n.toN≤n'.toN∧n'.toN≤n.toN+j*17∧(∀ q:K4, q.toN<n.toN->¬ P q->A8 q h'=A8 q h)∧(Al h n->Al h' n') := by
  intro j
  induction j with
  | zero =>
    intro i h n b bl hi O H hP hb hn
    obtain rfl:i=us.length := by omega
    refine ⟨h, n, b, bl, fun K => ?_, O, rfl, by omega, by omega, fun q _ _ => rfl, fun h => h⟩
    rw [BN]
    unfold enS
    simp (disch := omega) only [qa,g0,g1,g2,g3,g4,g5,g6,g7,g8,g9,Bb,B9,B7,Bd,Bq,Bi,Bt,Bk,Bl,Bp,w0,w1,w2,w3,w4,w5,w6,w7,w8,w9,Bc,Ba,B5,Bo,Be,Bm,Br,Bs,Bj,Bf,Mk,Nat.reduceAdd,Nat.reduceSub,Nat.reduceMul,Nat.reduceMod,Nat.reduceDiv,Q0,U]
  | succ j ih =>
    intro i h n b bl hi O H hP hb hn
    have hil:i<us.length := by omega
    have hx := hu _ (List.getElem_mem hil)
    obtain ⟨p, o, e1, e2⟩ := H.ls.at1 hil (by omega) (x := .int .i64 us[i]) (by simp [hil])
    obtain ⟨c1, h1, n1, e3, o1, b1, b2, f1, r1⟩ := put_ok (m := m) (v := us[i]) (k := 8) (n := n) (h := h) (by omega) (by omega) (by omega) (by omega)
    have O1:EX P n1 h1 b bl := O.frame b1 (fun q _ hq => hq) fun q hq _ => f1 q hq
    obtain ⟨b', h2, n2, e4, o2, b3, b4, f2, r2⟩ := Hn O1 o1.src (hP n1 b1) (by rw [putL_len]; omega) (by omega)
    have f12:∀ q:K4, q.toN<n.toN->¬ P q->A8 q h2=A8 q h := fun q hq hp => (f2 q (by omega) hp).trans (f1 q hq)
    obtain ⟨h3, n3, b3', bl3, e5, o3, k3, b5, b6, f3, r3⟩ := ih (i+1) h2 n2 b' (bl++putL us[i] 8) (by omega) o2 (H.frame (by omega) fun q hq hp => ⟨f12 q hq hp, hp⟩) (fun q hq => hP q (by omega)) (by rw [List.length_append, putL_len]; omega) (by omega)
    refine ⟨h3, n3, b3', bl3, fun K => ?_, o3, by rw [k3, List.length_append, putL_len]; omega, by omega, by omega, fun q hq hp => (f3 q (by omega) hp).trans (f12 q hq hp), fun hf => r3 (r2 (r1 hf))⟩
    rw [BN, show K+(j+1)=K+j+1 by omega, ←e5 K]
    generalize Cr (enS (Ak tab (m+1))) (K+j+1)=G'
    generalize us[i]=u at *
    unfold enS
    simp (disch := omega) only [qa,g0,g1,g2,g3,g4,g5,g6,g7,g8,g9,Bb,B9,B7,Bd,Bq,Bi,Bt,Bk,Bl,Bp,w0,w1,w2,w3,w4,w5,w6,w7,w8,w9,Bc,Ba,B5,Bo,Be,Bm,Br,Bs,Bj,Bf,Mk,Nat.reduceAdd,Nat.reduceSub,Nat.reduceMul,Nat.reduceMod,Nat.reduceDiv,Q0,U,e1,e2,cvi_64,e3,e4]
end Go.Ev.Ytdgefeadbcbglaa
