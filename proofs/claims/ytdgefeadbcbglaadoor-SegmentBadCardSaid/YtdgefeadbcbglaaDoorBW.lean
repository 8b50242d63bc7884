/- What the functions do, as equations over their texts, 2. -/
import Derived.Test.YtdgefeadbcbglaaDoorBV
import Derived.KernelRfl
import Derived.Deep.Slices
namespace Go.Ev.YtdgefeadbcbglaaDoor
open Go Go.Ev
set_option linter.unusedVariables false
set_option linter.unusedSimpArgs false
noncomputable def apLB (c:Fz):S->Heap->K4->R := fun t h n=>g8 t fun z5=>g7 t fun z6=>Ba z5 z6 fun z7=>BM z7 (Ao 1 (g6 t fun z8=>AY 6 z8 z5 fun z9=>CK 6 z9 h fun za=>Dz (.l [(iI 0),(iW 0),(iL 0),(iL 0),(iL 0),(.str 0 0)]) h n fun zb h n=>CX 6 zb za h fun h=>CK 6 zb h fun zc=>Ag (c ⟨.d0,.d2,.d10⟩ [zc] h n) fun zd h n=>mV zd fun ze=>AE (EL false (.rf .sl) ze (.nil .sl) AD) fun zf=>mV zf fun zg=>Km false zg (fun k=>AE (Ak 1 zb AD) k) fun zh=>Km false zg (fun k=>AE (Au zh h AD) k) fun zi=>g0 t fun zj=>Km false zg (fun k=>AE (AD zj) k) fun zk=>Km false zg (fun k=>AE (Am zk AD) k) fun zl=>Km false zg (fun k=>AE (Ak 2 zl AD) k) fun zm=>Km false zg (fun k=>AE (Au zm h AD) k) fun zn=>Km false zg (fun k=>AE (Cw zi zn AD) k) fun zo=>AE (AI zg (.bool true) zo AD) fun zp=>BM zp (w2 t (.nil .sl) fun t=>w3 t (iI 5) fun t=>rT t h n)<|g5 t fun zq=>Am zj fun zr=>Ak 3 zr fun zs=>Au zs h fun zt=>g4 t fun zu=>AJ zu fun zv=>AM zt zv fun zw=>AF 0 zw [(iI 0)] fun zx=>Cp false 1 1 zx h n fun zy h n=>C3 1 8 zq zy h n fun zz h n=>C3 1 1 zu zd h n fun z10 h n=>w4 t z10 fun t=>w5 t zz fun t=>nR t h n) fun t h n=>g8 t fun z11=>AM z11 (iI 1) fun z12=>w8 t z12 fun t=>nR t h n)<|.ok (.exit 0) t h n
noncomputable def x20L:Ent := .code en1 (fun c t h n=>g0 t fun z1=>EL false (.rf .ptr) z1 (.nil .ptr) fun z2=>BM z2 (w2 t (.nil .sl) fun t=>w3 t (iI 10) fun t=>rT t h n)<|g1 t fun z3=>AJ z3 fun z4=>Ao 0 (w2 t (.nil .sl) fun t=>w3 t (iI 0) fun t=>w4 t (.nil .sl) fun t=>w5 t (.nil .sl) fun t=>w6 t z3 fun t=>w7 t z4 fun t=>w8 t (iI 0) fun t=>C0 (apLB c) t h n) fun t h n=>Ao 2 (g1 t fun z13=>AJ z13 fun z14=>BH z14 (iI 0) fun z15=>BM z15 (w2 t (.nil .sl) fun t=>w3 t (iI 5) fun t=>rT t h n)<|g0 t fun z16=>Am z16 fun z17=>Ak 4 z17 fun z18=>Au z18 h fun z19=>EN z19 fun z1a=>BM z1a (w2 t (.nil .sl) fun t=>w3 t (iI 4) fun t=>rT t h n)<|nR t h n) fun t h n=>g0 t fun z1b=>mV z1b fun z1c=>AE (Am z1c AD) fun z1d=>AE (Ak 0 z1d AD) fun z1e=>AE (Au z1e h AD) fun z1f=>mV z1b fun z1g=>AE (Am z1g AD) fun z1h=>AE (Ak 1 z1h AD) fun z1i=>AE (Au z1i h AD) fun z1j=>mV z1b fun z1k=>AE (Am z1k AD) fun z1l=>AE (Ak 3 z1l AD) fun z1m=>AE (Au z1m h AD) fun z1n=>g4 t fun z1o=>mV z1o fun z1p=>DY (Ag (c ⟨.d0,.d1,.d13⟩ [z1f,z1j,z1n,z1p] h n) .rv) fun z1q h n=>mV z1q fun z1r=>Cw z1r (iI 0) fun z1s=>BM z1s (w2 t (.nil .sl) fun t=>w3 t z1r fun t=>rT t h n)<|Am z1b fun z1t=>Ak 3 z1t fun z1u=>Au z1u h fun z1v=>AJ z1o fun z1w=>AM z1v z1w fun z1x=>Am z1b fun z1y=>Ak 3 z1y fun z1z=>Bb z1z z1x h fun h=>g5 t fun z20=>w2 t z20 fun t=>w3 t (iI 0) fun t=>rT t h n) (fun t h n=>g2 t fun a0=>g3 t fun a1=>.rv (.tup [a0,a1]) h n)
theorem x20_L:x20=x20L := rfl
noncomputable def cellsR:List Rec->List V
  | [] => []
  | r::rs => rcs r++cellsR rs
theorem cellsR_app:∀ a b:List Rec, cellsR (a++b)=cellsR a++cellsR b
  | [], b => rfl
  | r::a, b => by rw [List.cons_append, cellsR, cellsR, cellsR_app a b, List.append_assoc]
theorem cellsR_at:∀ (rs:List Rec) (i:Nat) (h:i<rs.length), ((cellsR rs).drop (i*6)).take 6=rcs (rs[i]'h)
  | r::rs, 0, _ => by rw [cellsR, Nat.zero_mul, List.drop_zero]; exact List.take_left' rfl
  | r::rs, i+1, h => by
    have := cellsR_at rs i (by rw [List.length_cons] at h; omega)
    rw [cellsR, show (i+1)*6=(rcs r).length+i*6 by show _=6+_; omega, ←List.drop_drop, List.drop_left' rfl]
    exact this
theorem enc_no {m:Nat} {r:Rec} {h:Heap} {n:K4} (O:RecOK r) (H:¬ RecMay r) (hn:n.toN<60000) :
    ∃ h', Al tab (m+3) ⟨.d0, .d2, .d10⟩ [.agg (rcs r)] h n = .rv (.nil .sl) h' n.up.up∧(∀ q:K4, q.toN<n.toN->A9 q h'=A9 q h)∧(Ay h n->Ay h' n.up.up) := by
  have u1 := K4.up_toN (p := n) (by omega)
  have u2 := K4.up_toN (p := n.up) (by omega)
  have em := may_no (m := m+1) (r := r) (h := Ae n h (some (.c (.l (rcs r)) false none))) (n := n.up) O H (by omega)
  have em':Al tab (m+2) ⟨.d0, .d4, .d3⟩ [.agg (rl r.kind r.ten r.ep r.ob r.sq (sb r.body))] (Ae n h (some (.c (.l (rl r.kind r.ten r.ep r.ob r.sq (sb r.body))) false none))) n.up = .rv (.bool false) (Ae n.up (Ae n h (some (.c (.l (rcs r)) false none))) (some (.c (.l (rcs r)) false none))) n.up.up := em
  refine ⟨Ae n.up (Ae n h (some (.c (.l (rcs r)) false none))) (some (.c (.l (rcs r)) false none)), ?_, fun q hq => (As (by omega) _ _).trans (As hq _ _), fun hf q hq => (AG (by omega) _ _).trans ((AG (by omega) _ _).trans (hf q (by omega)))⟩
  rw [call2_at, show B5 ⟨.d0, .d2, .d10⟩ tab=some x42 from rfl, x42]
  show Kf _ _ [.agg (rl r.kind r.ten r.ep r.ob r.sq (sb r.body))] h n=_
  simp (config := {maxSteps := 3000000}) (disch := omega) only [qa,g0,g1,g2,g3,g4,g5,g6,g7,g8,g9,Bt,Bp,Bo,BC,BE,By,BF,g17,Bx,Bv,w0,w1,w2,w3,w4,w5,w6,w7,w8,w9,Bn,Bm,Br,BG,Bz,BB,BA,BD,Bw,Bu,Mk,Nat.reduceAdd,Nat.reduceSub,Nat.reduceMul,Nat.reduceMod,Nat.reduceDiv,Q0,U,en3,EW,em']
/-- What is so in the loop: the bytes, the places, each for itself. -/
def AP (lo:Nat) (h:Heap) (n:K4) (b:V) (l:List UInt8) (pl:V) (k:Nat):Prop := ∃ (A:K4->Prop) (cs:List V), (∀ q, A q->lo≤q.toN)∧ES A n h b l∧I8 (fun q => ¬ A q∧lo≤q.toN) n h 1 pl cs k
theorem ap_good {m lo:Nat} {h:Heap} {n sp f:K4} {a c id size:Nat} {b pl lv d2 d3 d5 d6 d7:V} {l:List UInt8} {k i K:Nat} {r:Rec} {c3 c4 c5 c6 c7:SQ} (P:AP lo h n b l pl k) (hlo:lo≤n.toN) (H:RecMay r) (hid:r.ten=id) (hi:i<K) (hK:K≤1000) (hk:k≤1000) (hl:l.length≤10000000) (hsz:size≤1000000000)
    (he:∃ p o, (∀ κ:V->R, AY 6 lv (.int .i64 i) κ=κ (.ptr p o)) ∧ ∀ κ:V->R, Jy (A9 p h) 6 o κ=κ (.agg (rcs r)))
    (hs:A9 sp h=some (.c (.l (sgC f a c id size true)) false none)) (hsn:sp.toN<lo) (hfr:Ay h n) (hn:n.toN<59000) :
    ∃ b' pl' h' n', apLB (Al tab (m+3)) (.mk (.mk (.ptr sp 0) lv d2 d3) (.mk b pl lv (.int .i64 K)) (.mk (.int .i64 i) d5 d6 d7) c3 c4 c5 c6 c7) h n = .ok .nrm (.mk (.mk (.ptr sp 0) lv d2 d3) (.mk b' pl' lv (.int .i64 K)) (.mk (.int .i64 (i+1)) d5 d6 d7) c3 c4 c5 c6 c7) h' n' ∧
      AP lo h' n' b' (l++encR r) pl' (k+1)∧n.toN≤n'.toN∧n'.toN≤n.toN+160∧(∀ q:K4, q.toN<lo->A9 q h'=A9 q h)∧Ay h' n' := by
  subst hid
  obtain ⟨A, cs, hAlo, OB, OP⟩ := P
  obtain ⟨p, o, ei, el⟩ := he
  have z7 := H.body
  have hEl := encR_len r
  have u1 := K4.up_toN (p := n) (by omega)
  obtain ⟨hR, hRe⟩:∃ x, Ae n h (some (.c (.l (rl r.kind r.ten r.ep r.ob r.sq (sb r.body))) false none))=x := ⟨_, rfl⟩
  have gR:∀ q:K4, q≠n->A9 q hR=A9 q h := fun q hq => by rw [←hRe]; exact A8 _ _ hq.symm
  have ne:∀ {p q:K4}, p.toN<q.toN->p≠q := fun h => K4.ne_of_lt h
  obtain ⟨c1, h1, n1, e1, o1, a1, b1, f1, r1⟩ := enc_ok (m := m) (r := r) (h := hR) (n := n.up) H (fun q hq => (gR q (ne (by omega)).symm).trans (hfr q (by omega))) (by omega)
  have hE:∀ κ, EL false (.rf .sl) c1 (.nil .sl) κ=κ (.bool false) := fun κ => by
    rcases o1 with ⟨_, e⟩ | ⟨p, ex, pr, rfl, _⟩
    · rw [e] at hEl; simp only [List.length_nil] at hEl; omega
    · exact NU _ _ _ _ _ _ _ _
  have v1 := K4.up_toN (p := n1) (by omega)
  have v2 := K4.up_toN (p := n1.up) (by omega)
  obtain ⟨h2, h2e⟩:∃ x, Ae n1 h1 (some (.c (.l [.int .i64 (size+l.length)]) false none))=x := ⟨_, rfl⟩
  have g2':∀ q:K4, q≠n1->A9 q h2=A9 q h1 := fun q hq => by rw [←h2e]; exact A8 _ _ hq.symm
  have k2:∀ q:K4, q.toN<n.toN->A9 q h2=A9 q h := fun q hq => (g2' q (ne (by omega))).trans ((f1 q (by omega)).trans (gR q (ne hq)))
  have r2:Ay h2 n1.up := fun q hq => (g2' q (ne (by omega)).symm).trans (r1 q (by omega))
  -- the place
  obtain ⟨h3, e3, OP3, f3, r3⟩ := YC (A := fun q => (¬ A q∧lo≤q.toN)∧q.toN<n.toN∨n1.up.toN≤q.toN) (n := n1.up) (h := h2) (eb := 8) (b := [.int .i64 (size+l.length)]) (m := 1) (OP.mono (by omega) (fun q h1 h2 => .inl ⟨h2, h1⟩) (fun q h1 _ => k2 q h1)) (fun q hq => .inr hq) rfl (by omega) (by omega) (by omega)
  have k3:∀ q:K4, q.toN<n.toN->A q->A9 q h3=A9 q h := fun q h1 h2 => (f3 q (fun h => by
    rcases h with h | h
    · exact h.1.1 h2
    · omega)).trans (k2 q h1)
  have c3':∀ q:K4, n.toN≤q.toN->q.toN<n1.up.toN->A9 q h3=A9 q h2 := fun q h1 h2 => f3 q (fun h => by
    rcases h with h | h
    · omega
    · omega)
  have s3:FD c1 (encR r) h3 := o1.src.frame fun p hp => by
    obtain ⟨off, cap, ex, e⟩ := hp
    rcases o1 with ⟨e', _⟩ | ⟨p', ex', pr', e', _, g1', g2'', _⟩
    · rw [e'] at e; cases e
    · rw [e'] at e; obtain ⟨rfl, _⟩ := V.sl.inj e; exact (c3' _ (by omega) (by omega)).trans (g2' _ (ne (by omega)))
  -- the bytes
  obtain ⟨b', h4, n4, e4, OB4, a4, b4, f4, r4⟩ := Kr (A := fun q => A q∧q.toN<n.toN∨n1.up.up.toN≤q.toN) (n := n1.up.up) (h := h3) (c := b) (v := c1) (l := l) (b := encR r) (OB.mono (by omega) (fun q h1 h2 => .inl ⟨h2, h1⟩) k3) (fun q hq => .inr hq) s3 (by omega) (by omega)
  refine ⟨b', _, h4, n4, ?_, ⟨_, _, fun q hq => ?_, OB4, OP3.mono a4 (fun q h1 h2 => ?_) (fun q h1 h2 => f4 q ?_)⟩, by omega, by omega, fun q hq => ?_, r4 (r3 r2)⟩
  · have x1:A9 n h1=some (.c (.l (rl r.kind r.ten r.ep r.ob r.sq (sb r.body))) false none) := (f1 n (by omega)).trans (by rw [←hRe]; exact A6 _ _ _)
    have xR:A9 n hR=some (.c (.l (rl r.kind r.ten r.ep r.ob r.sq (sb r.body))) false none) := by rw [←hRe]; exact A6 _ _ _
    have x2:A9 sp h1=some (.c (.l (sgC f a c r.ten size true)) false none) := (f1 sp (by omega)).trans ((gR sp (ne (by omega))).trans hs)
    have y2:A9 n1 h2=some (.c (.l [.int .i64 (size+l.length)]) false none) := by rw [←h2e]; exact A6 _ _ _
    have el':∀ κ:V->R, Jy (A9 p h) 6 o κ=κ (.agg (rl r.kind r.ten r.ep r.ob r.sq (sb r.body))) := el
    have e6:∀ κ:Heap->R, CX 6 (.ptr n 0) (.agg (rl r.kind r.ten r.ep r.ob r.sq (sb r.body))) (Ae n h (some (.c (.l (rl 0 0 0 0 0 (.str 0 0))) false none))) κ=κ hR := fun κ => (PX _ _ _ _ _ _ _ _ _ _ _ _ _ _ κ).trans (by rw [←hRe])
    have e1':Al tab (m+3) ⟨.d0, .d2, .d10⟩ [.agg (rl r.kind r.ten r.ep r.ob r.sq (sb r.body))] hR n.up = .rv c1 h1 n1 := e1
    have lb:∀ κ, AJ b κ=κ (.int .i64 l.length) := fun κ => OB.len (by omega) κ
    unfold apLB
    simp (config := {maxSteps := 3000000}) (disch := omega) only [qa,g0,g1,g2,g3,g4,g5,g6,g7,g8,g9,Bt,Bp,Bo,BC,BE,By,BF,g17,Bx,Bv,w0,w1,w2,w3,w4,w5,w6,w7,w8,w9,Bn,Bm,Br,BG,Bz,BB,BA,BD,Bw,Bu,Mk,Nat.reduceAdd,Nat.reduceSub,Nat.reduceMul,Nat.reduceMod,Nat.reduceDiv,Q0,U,q_iW,q_iL,q_iB,ei,el',e6,xR,EW,e1',hE,x1,x2,lb,h2e,y2,Ra,e3,e4,eq_self,CI,CC,Ct,Cq,BO,BI,Nat.add_zero]
  · rcases hq with hq | hq
    · exact hAlo q hq.1
    · omega
  · refine ⟨fun h => ?_, ?_⟩
    · rcases h with h | h
      · rcases h2 with h2 | h2
        · exact h2.1.1 h.1
        · omega
      · omega
    · rcases h2 with h2 | h2
      · exact h2.1.2
      · omega
  · intro h
    rcases h with h | h
    · rcases h2 with h2 | h2
      · exact h2.1.1 h.1
      · omega
    · omega
  · refine (f4 q fun h => ?_).trans ((f3 q fun h => ?_).trans (k2 q (by omega)))
    · rcases h with h | h
      · have := hAlo q h.1; omega
      · omega
    · rcases h with h | h
      · omega
      · omega
theorem ap_bad {m lo:Nat} {h:Heap} {n sp f:K4} {a c id size:Nat} {b pl lv d2 d3 d5 d6 d7:V} {l:List UInt8} {k i K:Nat} {r:Rec} {c3 c4 c5 c6 c7:SQ} (hlo:lo≤n.toN) (O:RecOK r) (H:¬ (RecMay r∧r.ten=id)) (hid:id<4294967296) (hi:i<K) (hK:K≤1000)
    (he:∃ p o, (∀ κ:V->R, AY 6 lv (.int .i64 i) κ=κ (.ptr p o)) ∧ ∀ κ:V->R, Jy (A9 p h) 6 o κ=κ (.agg (rcs r)))
    (hs:A9 sp h=some (.c (.l (sgC f a c id size true)) false none)) (hsn:sp.toN<lo) (hfr:Ay h n) (hn:n.toN<59000) :
    ∃ h' n', apLB (Al tab (m+3)) (.mk (.mk (.ptr sp 0) lv d2 d3) (.mk b pl lv (.int .i64 K)) (.mk (.int .i64 i) d5 d6 d7) c3 c4 c5 c6 c7) h n = .ok .ret (.mk (.mk (.ptr sp 0) lv (.nil .sl) (.int .i64 5)) (.mk b pl lv (.int .i64 K)) (.mk (.int .i64 i) d5 d6 d7) c3 c4 c5 c6 c7) h' n' ∧
      n.toN≤n'.toN∧n'.toN≤n.toN+160∧(∀ q:K4, q.toN<lo->A9 q h'=A9 q h)∧Ay h' n' := by
  obtain ⟨p, o, ei, el⟩ := he
  have z7 := O.ten
  have u1 := K4.up_toN (p := n) (by omega)
  have u2 := K4.up_toN (p := n.up) (by omega)
  have u3 := K4.up_toN (p := n.up.up) (by omega)
  obtain ⟨hR, hRe⟩:∃ x, Ae n h (some (.c (.l (rl r.kind r.ten r.ep r.ob r.sq (sb r.body))) false none))=x := ⟨_, rfl⟩
  have gR:∀ q:K4, q≠n->A9 q hR=A9 q h := fun q hq => by rw [←hRe]; exact A8 _ _ hq.symm
  have ne:∀ {p q:K4}, p.toN<q.toN->p≠q := fun h => K4.ne_of_lt h
  have xR:A9 n hR=some (.c (.l (rl r.kind r.ten r.ep r.ob r.sq (sb r.body))) false none) := by rw [←hRe]; exact A6 _ _ _
  have el':∀ κ:V->R, Jy (A9 p h) 6 o κ=κ (.agg (rl r.kind r.ten r.ep r.ob r.sq (sb r.body))) := el
  have e6:∀ κ:Heap->R, CX 6 (.ptr n 0) (.agg (rl r.kind r.ten r.ep r.ob r.sq (sb r.body))) (Ae n h (some (.c (.l (rl 0 0 0 0 0 (.str 0 0))) false none))) κ=κ hR := fun κ => (PX _ _ _ _ _ _ _ _ _ _ _ _ _ _ κ).trans (by rw [←hRe])
  by_cases hM:RecMay r
  · have ht:¬ r.ten=id := fun e => H ⟨hM, e⟩
    have hEl := encR_len r
    obtain ⟨c1, h1, n1, e1, o1, a1, b1, f1, r1⟩ := enc_ok (m := m) (r := r) (h := hR) (n := n.up) hM (fun q hq => (gR q (ne (by omega)).symm).trans (hfr q (by omega))) (by omega)
    have hE:∀ κ, EL false (.rf .sl) c1 (.nil .sl) κ=κ (.bool false) := fun κ => by
      rcases o1 with ⟨_, e⟩ | ⟨p, ex, pr, rfl, _⟩
      · rw [e] at hEl; simp only [List.length_nil] at hEl; omega
      · exact NU _ _ _ _ _ _ _ _
    refine ⟨h1, n1, ?_, by omega, by omega, fun q hq => (f1 q (by omega)).trans (gR q (ne (by omega))), r1⟩
    have x1:A9 n h1=some (.c (.l (rl r.kind r.ten r.ep r.ob r.sq (sb r.body))) false none) := (f1 n (by omega)).trans xR
    have x2:A9 sp h1=some (.c (.l (sgC f a c id size true)) false none) := (f1 sp (by omega)).trans ((gR sp (ne (by omega))).trans hs)
    have e1':Al tab (m+3) ⟨.d0, .d2, .d10⟩ [.agg (rl r.kind r.ten r.ep r.ob r.sq (sb r.body))] hR n.up = .rv c1 h1 n1 := e1
    unfold apLB
    simp (config := {maxSteps := 3000000}) (disch := omega) only [qa,g0,g1,g2,g3,g4,g5,g6,g7,g8,g9,Bt,Bp,Bo,BC,BE,By,BF,g17,Bx,Bv,w0,w1,w2,w3,w4,w5,w6,w7,w8,w9,Bn,Bm,Br,BG,Bz,BB,BA,BD,Bw,Bu,Mk,Nat.reduceAdd,Nat.reduceSub,Nat.reduceMul,Nat.reduceMod,Nat.reduceDiv,Q0,U,q_iW,q_iL,q_iB,ei,el',e6,xR,EW,e1',hE,x1,x2,eq_self,CI,CC,Ct,Cq,BO,BI,Nat.add_zero]
  · obtain ⟨h1, e1, f1, r1⟩ := enc_no (m := m) (r := r) (h := hR) (n := n.up) O hM (by omega)
    refine ⟨h1, n.up.up.up, ?_, by omega, by omega, fun q hq => (f1 q (by omega)).trans (gR q (ne (by omega))), r1 fun q hq => (gR q (ne (by omega)).symm).trans (hfr q (by omega))⟩
    have e1':Al tab (m+3) ⟨.d0, .d2, .d10⟩ [.agg (rl r.kind r.ten r.ep r.ob r.sq (sb r.body))] hR n.up = .rv (.nil .sl) h1 n.up.up.up := e1
    unfold apLB
    simp (config := {maxSteps := 3000000}) (disch := omega) only [qa,g0,g1,g2,g3,g4,g5,g6,g7,g8,g9,Bt,Bp,Bo,BC,BE,By,BF,g17,Bx,Bv,w0,w1,w2,w3,w4,w5,w6,w7,w8,w9,Bn,Bm,Br,BG,Bz,BB,BA,BD,Bw,Bu,Mk,Nat.reduceAdd,Nat.reduceSub,Nat.reduceMul,Nat.reduceMod,Nat.reduceDiv,Q0,U,q_iW,q_iL,q_iB,ei,el',e6,xR,EW,e1',eq_self,CI,CC,Ct,Cq,BO,BI,Nat.add_zero]
theorem bytesR_le:∀ rs:List Rec, (∀ r∈rs, RecMay r)->(bytesR rs).length≤rs.length*1039
  | [], _ => Nat.zero_le _
  | r::rs, h => by
    have h1 := (h r (by simp)).body
    have h2 := bytesR_le rs (fun x hx => h x (by simp [hx]))
    rw [bytesR, List.length_append, encR_len, List.length_cons]; omega
theorem ap_loop {m lo:Nat} {sp f lo':K4} {a c id size:Nat} {lv d5 d6 d7:V} {c3 c4 c5 c6 c7:SQ} {rs:List Rec} (hR:∀ r∈rs, RecOK r) (hid:id<4294967296) (hk:rs.length≤100) (hsz:size≤1000000) (hsn:sp.toN<lo) :
    ∀ (j i:Nat) (h:Heap) (n:K4) (b pl:V), i+j=rs.length->(∀ x∈rs.take i, RecMay x∧x.ten=id)->AP lo h n b (bytesR (rs.take i)) pl i->LS h lo' [] 6 lv (cellsR rs) rs.length->lo'.toN≤lo->lo≤n.toN->A9 sp h=some (.c (.l (sgC f a c id size true)) false none)->Ay h n->n.toN+160*j<59000 →
    ∃ h' n', n.toN≤n'.toN∧n'.toN≤n.toN+160*j∧(∀ q:K4, q.toN<lo->A9 q h'=A9 q h)∧Ay h' n' ∧
      ((∃ b' pl', (∀ x∈rs, RecMay x∧x.ten=id)∧AP lo h' n' b' (bytesR rs) pl' rs.length ∧ ∀ K, DH (apLB (Al tab (m+3))) (K+j+1) (.mk (.mk (.ptr sp 0) lv (.nil .sl) (.int .i64 0)) (.mk b pl lv (.int .i64 rs.length)) (.mk (.int .i64 i) d5 d6 d7) c3 c4 c5 c6 c7) h n = .ok (.exit 0) (.mk (.mk (.ptr sp 0) lv (.nil .sl) (.int .i64 0)) (.mk b' pl' lv (.int .i64 rs.length)) (.mk (.int .i64 rs.length) d5 d6 d7) c3 c4 c5 c6 c7) h' n') ∨
       (∃ b' pl' i', (¬ ∀ x∈rs, RecMay x∧x.ten=id) ∧ ∀ K, DH (apLB (Al tab (m+3))) (K+j+1) (.mk (.mk (.ptr sp 0) lv (.nil .sl) (.int .i64 0)) (.mk b pl lv (.int .i64 rs.length)) (.mk (.int .i64 i) d5 d6 d7) c3 c4 c5 c6 c7) h n = .ok .ret (.mk (.mk (.ptr sp 0) lv (.nil .sl) (.int .i64 5)) (.mk b' pl' lv (.int .i64 rs.length)) (.mk i' d5 d6 d7) c3 c4 c5 c6 c7) h' n')) := by
  intro j
  induction j with
  | zero =>
    intro i h n b pl hi hg P L hl hlo hs hfr hn
    obtain rfl:i=rs.length := by omega
    rw [List.take_length] at hg P
    refine ⟨h, n, by omega, by omega, fun q _ => rfl, hfr, .inl ⟨b, pl, hg, P, fun K => ?_⟩⟩
    rw [Dh]
    unfold apLB
    simp (config := {maxSteps := 3000000}) (disch := omega) only [qa,g0,g1,g2,g3,g4,g5,g6,g7,g8,g9,Bt,Bp,Bo,BC,BE,By,BF,g17,Bx,Bv,w0,w1,w2,w3,w4,w5,w6,w7,w8,w9,Bn,Bm,Br,BG,Bz,BB,BA,BD,Bw,Bu,Mk,Nat.reduceAdd,Nat.reduceSub,Nat.reduceMul,Nat.reduceMod,Nat.reduceDiv,Q0,U]
  | succ j ih =>
    intro i h n b pl hi hg P L hl hlo hs hfr hn
    have hi':i<rs.length := by omega
    have he:∃ p o, (∀ κ:V->R, AY 6 lv (.int .i64 i) κ=κ (.ptr p o)) ∧ ∀ κ:V->R, Jy (A9 p h) 6 o κ=κ (.agg (rcs (rs[i]'hi'))) := by
      obtain ⟨p, o, e1, e2, _⟩ := L.ix hi' (by omega)
      exact ⟨p, o, e1, fun κ => by rw [e2, cellsR_at rs i hi']⟩
    by_cases hb:RecMay (rs[i]'hi')∧(rs[i]'hi').ten=id
    · have hlen:(bytesR (rs.take i)).length≤10000000 := by
        have := bytesR_le (rs.take i) (fun x hx => (hg x hx).1)
        have:(rs.take i).length≤100 := by rw [List.length_take]; omega
        omega
      obtain ⟨b1, pl1, h1, n1, e1, P1, a1, q1, f1, r1⟩ := ap_good (m := m) (d2 := .nil .sl) (d3 := .int .i64 0) (d5 := d5) (d6 := d6) (d7 := d7) (c3 := c3) (c4 := c4) (c5 := c5) (c6 := c6) (c7 := c7) P hlo hb.1 hb.2 hi' (by omega) (by omega) hlen (by omega) he hs hsn hfr (by omega)
      have ht:rs.take (i+1)=rs.take i++[rs[i]'hi'] := (List.take_append_getElem hi').symm
      have P1':AP lo h1 n1 b1 (bytesR (rs.take (i+1))) pl1 (i+1) := by
        rw [ht, bytesR_app, bytesR, bytesR, List.append_nil]; exact P1
      obtain ⟨h2, n2, a2, q2, f2, r2, hE⟩ := ih (i+1) h1 n1 b1 pl1 (by omega) (fun x hx => by
        rw [ht] at hx
        rcases List.mem_append.1 hx with hx | hx
        · exact hg x hx
        · rw [List.mem_singleton.1 hx]; exact hb) P1' (L.more (Nat.le_refl _) fun q hq => f1 q (by omega)) hl (by omega) ((f1 sp hsn).trans hs) r1 (by omega)
      refine ⟨h2, n2, by omega, by omega, fun q hq => (f2 q hq).trans (f1 q hq), r2, ?_⟩
      rcases hE with ⟨b2, pl2, w1', w2', w3'⟩ | ⟨b2, pl2, i2, w1', w2'⟩
      · refine .inl ⟨b2, pl2, w1', w2', fun K => ?_⟩
        rw [show K+(j+1)+1=(K+j+1)+1 by omega, Dh, e1, Gq]
        exact w3' K
      · refine .inr ⟨b2, pl2, i2, w1', fun K => ?_⟩
        rw [show K+(j+1)+1=(K+j+1)+1 by omega, Dh, e1, Gq]
        exact w2' K
    · obtain ⟨h1, n1, e1, a1, q1, f1, r1⟩ := ap_bad (m := m) (d2 := .nil .sl) (d3 := .int .i64 0) (d5 := d5) (d6 := d6) (d7 := d7) (b := b) (pl := pl) (c3 := c3) (c4 := c4) (c5 := c5) (c6 := c6) (c7 := c7) (l := []) (k := 0) hlo (hR _ (List.getElem_mem hi')) hb hid hi' (by omega) he hs hsn hfr (by omega)
      refine ⟨h1, n1, by omega, by omega, f1, r1, .inr ⟨b, pl, .int .i64 i, fun hh => hb (hh _ (List.getElem_mem hi')), fun K => ?_⟩⟩
      rw [show K+(j+1)+1=(K+j+1)+1 by omega, Dh, e1, Uz]
theorem app_bad {m:Nat} {h:Heap} {n f d x dm pc sp:K4} {room rd calls fl a c b k id:Nat} {cv sv lw w lv:V} {bs:List UInt8} {rs:List Rec} (D:GS h n f d x dm pc sp room rd calls fl a c b k cv sv lw w id bs true)
    (hR:∀ r∈rs, RecOK r) (hid:id<4294967296) (hk:rs.length≤100) (L:LS h n [] 6 lv (cellsR rs) rs.length) (hno:rs=[] ∨ ¬ ∀ r∈rs, RecMay r∧r.ten=id) (hbs:bs.length≤1000000) (hn:n.toN<40000) :
    ∃ h' n', Al tab (m+12) ⟨.d0, .d1, .d4⟩ [.ptr sp 0, lv] h n = .rv (.tup [.nil .sl, .int .i64 5]) h' n'∧n.toN≤n'.toN∧n'.toN≤n.toN+16000∧GS h' n' f d x dm pc sp room rd calls fl a c b k cv sv lw w id bs true := by
  obtain ⟨lf, ld, lx, lm, lp, ls⟩ := D.lts
  obtain ⟨h1, n1, a1, b1, f1, r1, hE⟩ := ap_loop (m := m+8) (lo := n.toN) (lo' := n) (size := bs.length) (d5 := B4) (d6 := B4) (d7 := B4) (c3 := Q0) (c4 := Q0) (c5 := Q0) (c6 := Q0) (c7 := Q0) hR hid hk (by omega) ls rs.length 0 h n (.nil .sl) (.nil .sl) (by omega) (fun x hx => by cases hx) ⟨fun q => n.toN≤q.toN, [], fun q hq => hq, .inl ⟨rfl, rfl⟩, .inl ⟨rfl, rfl, rfl⟩⟩ L (Nat.le_refl _) (Nat.le_refl _) D.hs D.fr (by omega)
  have lln:∀ κ, AJ lv κ=κ (.int .i64 rs.length) := fun κ => L.len (by omega) κ
  refine ⟨h1, n1, ?_, a1, by omega, D.up a1 f1 r1⟩
  rw [call2_at, show B5 ⟨.d0, .d1, .d4⟩ tab=some x20 from rfl, x20_L, x20L]
  rcases hE with ⟨b', pl', hg, P, e⟩ | ⟨b', pl', i', hg, e⟩
  · obtain rfl:rs=[] := by
      rcases hno with h | h
      · exact h
      · exact absurd hg h
    have e2 := e 999999999
    simp only [Q0,List.length_nil,Nat.add_zero] at e2
    simp only [List.length_nil] at lln
    simp (config := {maxSteps := 3000000}) (disch := omega) only [qa,g0,g1,g2,g3,g4,g5,g6,g7,g8,g9,Bt,Bp,Bo,BC,BE,By,BF,g17,Bx,Bv,w0,w1,w2,w3,w4,w5,w6,w7,w8,w9,Bn,Bm,Br,BG,Bz,BB,BA,BD,Bw,Bu,Mk,Nat.reduceAdd,Nat.reduceSub,Nat.reduceMul,Nat.reduceMod,Nat.reduceDiv,Q0,U,en1,lln]
    rw [CH, ←Dh, e2]
    simp (config := {maxSteps := 3000000}) (disch := omega) only [qa,g0,g1,g2,g3,g4,g5,g6,g7,g8,g9,Bt,Bp,Bo,BC,BE,By,BF,g17,Bx,Bv,w0,w1,w2,w3,w4,w5,w6,w7,w8,w9,Bn,Bm,Br,BG,Bz,BB,BA,BD,Bw,Bu,Mk,Nat.reduceAdd,Nat.reduceSub,Nat.reduceMul,Nat.reduceMod,Nat.reduceDiv,Q0,U,lln]
  · have e2 := e (999999999 - rs.length)
    rw [show 999999999 - rs.length+rs.length+1=999999999+1 by omega] at e2
    simp only [Q0] at e2
    simp (config := {maxSteps := 3000000}) (disch := omega) only [qa,g0,g1,g2,g3,g4,g5,g6,g7,g8,g9,Bt,Bp,Bo,BC,BE,By,BF,g17,Bx,Bv,w0,w1,w2,w3,w4,w5,w6,w7,w8,w9,Bn,Bm,Br,BG,Bz,BB,BA,BD,Bw,Bu,Mk,Nat.reduceAdd,Nat.reduceSub,Nat.reduceMul,Nat.reduceMod,Nat.reduceDiv,Q0,U,en1,lln]
    rw [CH, ←Dh, e2]
    simp (config := {maxSteps := 3000000}) (disch := omega) only [qa,g0,g1,g2,g3,g4,g5,g6,g7,g8,g9,Bt,Bp,Bo,BC,BE,By,BF,g17,Bx,Bv,w0,w1,w2,w3,w4,w5,w6,w7,w8,w9,Bn,Bm,Br,BG,Bz,BB,BA,BD,Bw,Bu,Mk,Nat.reduceAdd,Nat.reduceSub,Nat.reduceMul,Nat.reduceMod,Nat.reduceDiv,Q0,U]
theorem app_ok {m:Nat} {h:Heap} {n f d x dm pc sp:K4} {room rd calls fl fl' a c b k id:Nat} {cv sv lw w lv:V} {bs:List UInt8} {rs:List Rec} (D:GS h n f d x dm pc sp room rd calls fl a c b k cv sv lw w id bs true)
    (hb:Bg fl fl') (hR:∀ r∈rs, RecMay r∧r.ten=id) (hid:id<4294967296) (hk:rs.length≤100) (hk0:0<rs.length) (L:LS h n [] 6 lv (cellsR rs) rs.length) (hbs:bs.length≤500000) (hroom:room≤4194304) (hroom2:bs.length+(bytesR rs).length≤room) (hc:calls<900000) (hn:n.toN<40000) :
    ∃ h' n' pc' cv' pl, Al tab (m+12) ⟨.d0, .d1, .d4⟩ [.ptr sp 0, lv] h n = .rv (.tup [pl, .int .i64 0]) h' n'∧(∀ κ, AJ pl κ=κ (.int .i64 rs.length))∧n.toN≤n'.toN∧n'.toN≤n.toN+16100 ∧
      GS h' n' f d x dm pc' sp room rd (calls+1) fl' a c b k cv' sv lw w id (bs++bytesR rs) true := by
  obtain ⟨lf, ld, lx, lm, lp, ls⟩ := D.lts
  obtain ⟨h1, n1, a1, b1, f1, r1, hE⟩ := ap_loop (m := m+8) (lo := n.toN) (lo' := n) (size := bs.length) (d5 := B4) (d6 := B4) (d7 := B4) (c3 := Q0) (c4 := Q0) (c5 := Q0) (c6 := Q0) (c7 := Q0) (fun r hr => (hR r hr).1.ok) hid hk (by omega) ls rs.length 0 h n (.nil .sl) (.nil .sl) (by omega) (fun x hx => by cases hx) ⟨fun q => n.toN≤q.toN, [], fun q hq => hq, .inl ⟨rfl, rfl⟩, .inl ⟨rfl, rfl, rfl⟩⟩ L (Nat.le_refl _) (Nat.le_refl _) D.hs D.fr (by omega)
  obtain ⟨b', pl', hg, P, e⟩ := hE.resolve_right fun ⟨_, _, _, hg, _⟩ => hg hR
  obtain ⟨A, cs, hA, OB, OP⟩ := P
  have D1 := D.up a1 f1 r1
  have hbl := bytesR_le rs (fun r hr => (hR r hr).1)
  have hpos:0<(bytesR rs).length := by
    cases rs with
    | nil => cases hk0
    | cons r rs => rw [bytesR, List.length_append, encR_len]; omega
  have nd := D.nd
  simp only [List.pairwise_cons,List.mem_cons,List.not_mem_nil,or_false,forall_eq_or_imp,forall_eq,List.Pairwise.nil,and_true,false_implies,implies_true] at nd
  obtain ⟨⟨nfd, nfx, nfm, nfp, nfs⟩, ⟨ndx, ndm, ndp, nds⟩, ⟨nxm, nxp, nxs⟩, ⟨nmp, nms⟩, nps⟩ := nd
  obtain ⟨es, ds, dk, hm, ik⟩ := D1.hm
  have hsp:∀ p:K4, (∃ off cap ex, b' = .sl p off (bytesR rs).length cap ex 1)->n.toN≤p.toN∧p.toN<n1.toN := fun p hp => by
    obtain ⟨off, cap, ex, e⟩ := hp
    rcases OB with ⟨e', _⟩ | ⟨p', ex', pr', e', _, g1', g2', _⟩
    · rw [e'] at e; cases e
    · rw [e'] at e; obtain ⟨rfl, _⟩ := V.sl.inj e; exact ⟨hA _ g1', g2'⟩
  obtain ⟨h2, n2, p', e2, a3, a4, r2, f2, y2, m2, q1, q2, cv', x2, o2⟩ := write_app (m := m) (v := b') (l := bytesR rs) (n := n1) hb (by omega) D1.hf D1.hd D1.hb D1.hx hm ik D1.own OB.src hroom hroom2 hpos (by omega) (by omega) nfd.symm (by omega) nfx (by omega) nxm.symm nfm (by omega) nfp.symm nxp.symm nmp.symm (by omega)
    (fun p hp => by
      obtain ⟨b1, b2⟩ := hsp p hp
      exact ⟨b2, (K4.ne_of_lt (by omega)).symm, (K4.ne_of_lt (by omega)).symm, (K4.ne_of_lt (by omega)).symm, (K4.ne_of_lt (by omega)).symm⟩)
  have s1 := D1.hs
  have s2 := (f2 sp (by omega) nfs.symm nms.symm nps.symm nxs.symm).trans D1.hs
  have lln:∀ κ, AJ lv κ=κ (.int .i64 rs.length) := fun κ => L.len (by omega) κ
  have lb:∀ κ, AJ b' κ=κ (.int .i64 (bytesR rs).length) := fun κ => OB.len (by omega) κ
  refine ⟨Ae sp h2 (some (.c (.l (sgC f a c id (bs.length+(bytesR rs).length) true)) false none)), n2, p', cv', pl', ?_, fun κ => OP.len (by omega) κ, by omega, by omega, ⟨?_, ?_, D.hb, ?_, ?_, ?_, ?_, ?_, ?_, ?_⟩⟩
  · have e3 := e (999999999 - rs.length)
    rw [show 999999999 - rs.length+rs.length+1=999999999+1 by omega] at e3
    simp only [Q0] at e3
    rw [call2_at, show B5 ⟨.d0, .d1, .d4⟩ tab=some x20 from rfl, x20_L, x20L]
    simp (config := {maxSteps := 3000000}) (disch := omega) only [qa,g0,g1,g2,g3,g4,g5,g6,g7,g8,g9,Bt,Bp,Bo,BC,BE,By,BF,g17,Bx,Bv,w0,w1,w2,w3,w4,w5,w6,w7,w8,w9,Bn,Bm,Br,BG,Bz,BB,BA,BD,Bw,Bu,Mk,Nat.reduceAdd,Nat.reduceSub,Nat.reduceMul,Nat.reduceMod,Nat.reduceDiv,Q0,U,en1,lln]
    rw [CH, ←Dh, e3]
    simp (config := {maxSteps := 3000000}) (disch := omega) only [qa,g0,g1,g2,g3,g4,g5,g6,g7,g8,g9,Bt,Bp,Bo,BC,BE,By,BF,g17,Bx,Bv,w0,w1,w2,w3,w4,w5,w6,w7,w8,w9,Bn,Bm,Br,BG,Bz,BB,BA,BD,Bw,Bu,Mk,Nat.reduceAdd,Nat.reduceSub,Nat.reduceMul,Nat.reduceMod,Nat.reduceDiv,Q0,U,lln,s1,lb,e2,s2]
  · exact (A8 _ _ nfs.symm).trans y2
  · exact (A8 _ _ nds.symm).trans ((f2 d (by omega) nfd.symm ndm ndp ndx).trans D1.hd)
  · exact (A8 _ _ nxs.symm).trans x2
  · obtain ⟨es, ds, dk, g1', g2'⟩ := m2
    exact ⟨es, ds, dk, (A8 _ _ nms.symm).trans g1', g2'⟩
  · exact o2.frame (A8 _ _ (K4.ne_of_lt (by omega)))
  · rw [A6, List.length_append]
  · exact fun q hq => (AG (by omega) _ _).trans (r2 r1 q hq)
  · simp only [List.pairwise_cons,List.mem_cons,List.not_mem_nil,or_false,forall_eq_or_imp,forall_eq,List.Pairwise.nil,and_true,false_implies,implies_true]
    have lt:∀ {p q:K4}, p.toN<q.toN->p≠q := fun h => K4.ne_of_lt h
    exact ⟨⟨nfd, nfx, nfm, lt (by omega), nfs⟩, ⟨ndx, ndm, lt (by omega), nds⟩, ⟨nxm, lt (by omega), nxs⟩, ⟨lt (by omega), nms⟩, (lt (by omega)).symm⟩
  · intro q hq
    simp only [List.mem_cons,List.not_mem_nil,or_false] at hq
    rcases hq with rfl | rfl | rfl | rfl | rfl | rfl <;> omega
/-- A record of an argument. -/
def rvR (r:Rec):List RV := [.i .i64 r.kind, .i .u32 r.ten, .i .u64 r.ep, .i .u64 r.ob, .i .u64 r.sq, .s r.body.length (Ar r.body)]
def rvRs:List Rec->List RV
  | [] => []
  | r::rs => rvR r++rvRs rs
theorem rvRs_at:∀ (rs:List Rec) (i:Nat) (h:i<rs.length), ∃ t, (rvRs rs).drop (i*6)=rvR (rs[i]'h)++t
  | r::rs, 0, _ => ⟨rvRs rs, by rw [rvRs, Nat.zero_mul, List.drop_zero]; rfl⟩
  | r::rs, i+1, h => by
    obtain ⟨t, e⟩ := rvRs_at rs i (by rw [List.length_cons] at h; omega)
    refine ⟨t, ?_⟩
    rw [rvRs, show (i+1)*6=(rvR r).length+i*6 by show _=6+_; omega, ←List.drop_drop, List.drop_left' rfl]
    exact e
theorem ix_rx6 {l:List RV} {m i:Nat} (hi:i<m) (h2:i<9223372036854775808) (κ:V->R):AY 6 (.oth (.rx l m 6)) (.int .i64 i) κ=κ (.oth (.rp (l.drop (i*6)))) := by
  show br (Nat.ble (Nat.succ i) 9223372036854775808) (br (Nat.beq 6 6) (br (Nat.ble (Nat.succ i) m) (Aa (Nat.mul i 6) fun j => κ (.oth (.rp (l.drop j)))) (.fail "")) (.fail "")) (.fail "")=_
  rw [show Nat.ble (Nat.succ i) 9223372036854775808=true from Ab.2 (by omega), Ac, Nat.beq_refl, Ac, show Nat.ble (Nat.succ i) m=true from Ab.2 hi, Ac, A7]; rfl
theorem ldn_rp6 (r:Rec) (t:List RV) (h:Heap) (κ:V->R):CK 6 (.oth (.rp (rvR r++t))) h κ=κ (.agg (rcs r)) := by
  show br (Nat.ble 6 (rvR r++t).length) (κ (.agg (((rvR r++t).take 6).map RV.v))) (.fail "")=_
  rw [show Nat.ble 6 (rvR r++t).length=true from Ab.2 (by rw [List.length_append]; show 6≤6+_; omega), Ac]; rfl
theorem may2_yes {m:Nat} {r:Rec} {h:Heap} {n:K4} (H:RecMay r) (hn:n.toN<65000):Al tab (m+1) ⟨.d0, .d1, .d3⟩ [.agg (rcs r)] h n = .rv (.bool true) (Ae n h (some (.c (.l (rcs r)) false none))) n.up := by
  have e2 := H.k1
  have e3 := H.k2
  have e4 := H.body
  have z4 := H.ep
  have z5 := H.ob
  have z6 := H.sq
  have e6 := fun κ => lnS_sb (l := r.body) (by omega) κ
  rw [call2_at, show B5 ⟨.d0, .d1, .d3⟩ tab=some x19 from rfl, x19]
  unfold rcs
  simp (config := {maxSteps := 3000000}) (disch := omega) only [qa,g0,g1,g2,g3,g4,g5,g6,g7,g8,g9,Bt,Bp,Bo,BC,BE,By,BF,g17,Bx,Bv,w0,w1,w2,w3,w4,w5,w6,w7,w8,w9,Bn,Bm,Br,BG,Bz,BB,BA,BD,Bw,Bu,Mk,Nat.reduceAdd,Nat.reduceSub,Nat.reduceMul,Nat.reduceMod,Nat.reduceDiv,Q0,U,en3,e6,CI,CC,Ct,Cq,BO,BI]
theorem may2_no {m:Nat} {r:Rec} {h:Heap} {n:K4} (O:RecOK r) (H:¬ RecMay r) (hn:n.toN<65000):Al tab (m+1) ⟨.d0, .d1, .d3⟩ [.agg (rcs r)] h n = .rv (.bool false) (Ae n h (some (.c (.l (rcs r)) false none))) n.up := by
  have e6 := fun κ => lnS_sb (l := r.body) O.body κ
  have e7 := O.kind
  have e8 := O.body
  have z4 := O.ep
  have z5 := O.ob
  have z6 := O.sq
  rw [call2_at, show B5 ⟨.d0, .d1, .d3⟩ tab=some x19 from rfl, x19]
  unfold rcs
  by_cases k1:r.kind<1
  · simp (config := {maxSteps := 3000000}) (disch := omega) only [qa,g0,g1,g2,g3,g4,g5,g6,g7,g8,g9,Bt,Bp,Bo,BC,BE,By,BF,g17,Bx,Bv,w0,w1,w2,w3,w4,w5,w6,w7,w8,w9,Bn,Bm,Br,BG,Bz,BB,BA,BD,Bw,Bu,Mk,Nat.reduceAdd,Nat.reduceSub,Nat.reduceMul,Nat.reduceMod,Nat.reduceDiv,Q0,U,en3,e6,CI,CC,Ct,Cq,BO,BI]
  by_cases k0:9223372036854775808≤r.kind
  · simp (config := {maxSteps := 3000000}) (disch := omega) only [qa,g0,g1,g2,g3,g4,g5,g6,g7,g8,g9,Bt,Bp,Bo,BC,BE,By,BF,g17,Bx,Bv,w0,w1,w2,w3,w4,w5,w6,w7,w8,w9,Bn,Bm,Br,BG,Bz,BB,BA,BD,Bw,Bu,Mk,Nat.reduceAdd,Nat.reduceSub,Nat.reduceMul,Nat.reduceMod,Nat.reduceDiv,Q0,U,en3,e6,CI,CC,Ct,Cq,BO,BI]
  by_cases k2:4<r.kind
  · simp (config := {maxSteps := 3000000}) (disch := omega) only [qa,g0,g1,g2,g3,g4,g5,g6,g7,g8,g9,Bt,Bp,Bo,BC,BE,By,BF,g17,Bx,Bv,w0,w1,w2,w3,w4,w5,w6,w7,w8,w9,Bn,Bm,Br,BG,Bz,BB,BA,BD,Bw,Bu,Mk,Nat.reduceAdd,Nat.reduceSub,Nat.reduceMul,Nat.reduceMod,Nat.reduceDiv,Q0,U,en3,e6,CI,CC,Ct,Cq,BO,BI]
  by_cases k3:1099511627776<r.ep
  · simp (config := {maxSteps := 3000000}) (disch := omega) only [qa,g0,g1,g2,g3,g4,g5,g6,g7,g8,g9,Bt,Bp,Bo,BC,BE,By,BF,g17,Bx,Bv,w0,w1,w2,w3,w4,w5,w6,w7,w8,w9,Bn,Bm,Br,BG,Bz,BB,BA,BD,Bw,Bu,Mk,Nat.reduceAdd,Nat.reduceSub,Nat.reduceMul,Nat.reduceMod,Nat.reduceDiv,Q0,U,en3,e6,CI,CC,Ct,Cq,BO,BI]
  by_cases k4:1099511627776<r.ob
  · simp (config := {maxSteps := 3000000}) (disch := omega) only [qa,g0,g1,g2,g3,g4,g5,g6,g7,g8,g9,Bt,Bp,Bo,BC,BE,By,BF,g17,Bx,Bv,w0,w1,w2,w3,w4,w5,w6,w7,w8,w9,Bn,Bm,Br,BG,Bz,BB,BA,BD,Bw,Bu,Mk,Nat.reduceAdd,Nat.reduceSub,Nat.reduceMul,Nat.reduceMod,Nat.reduceDiv,Q0,U,en3,e6,CI,CC,Ct,Cq,BO,BI]
  by_cases k5:1099511627776<r.sq
  · simp (config := {maxSteps := 3000000}) (disch := omega) only [qa,g0,g1,g2,g3,g4,g5,g6,g7,g8,g9,Bt,Bp,Bo,BC,BE,By,BF,g17,Bx,Bv,w0,w1,w2,w3,w4,w5,w6,w7,w8,w9,Bn,Bm,Br,BG,Bz,BB,BA,BD,Bw,Bu,Mk,Nat.reduceAdd,Nat.reduceSub,Nat.reduceMul,Nat.reduceMod,Nat.reduceDiv,Q0,U,en3,e6,CI,CC,Ct,Cq,BO,BI]
  have k6:1000<r.body.length := by
    rcases Nat.lt_or_ge 1000 r.body.length with h | h
    · exact h
    · exact absurd ⟨by omega, by omega, O.ten, by omega, by omega, by omega, h⟩ H
  simp (config := {maxSteps := 3000000}) (disch := omega) only [qa,g0,g1,g2,g3,g4,g5,g6,g7,g8,g9,Bt,Bp,Bo,BC,BE,By,BF,g17,Bx,Bv,w0,w1,w2,w3,w4,w5,w6,w7,w8,w9,Bn,Bm,Br,BG,Bz,BB,BA,BD,Bw,Bu,Mk,Nat.reduceAdd,Nat.reduceSub,Nat.reduceMul,Nat.reduceMod,Nat.reduceDiv,Q0,U,en3,e6,CI,CC,Ct,Cq,BO,BI]
/-- A record whose body is cut. -/
def cutR (r:Rec) (k:Nat):Rec := { r with body := r.body.take k }
theorem cutS_ok {m k:Nat} {l:List UInt8} {h:Heap} {n:K4} (hl:l.length<9223372036854775808) (hk:k<9223372036854775808):Al tab (m+1) ⟨.d0, .d2, .d9⟩ [sb l, .int .i64 k] h n = .rv (sb (l.take k)) h n := by
  have e1 := fun κ => V4 l hl κ
  rw [call2_at, show B5 ⟨.d0, .d2, .d9⟩ tab=some x41 from rfl, x41]
  by_cases hc:k<l.length
  · have e2:∀ κ, L4 (sb l) none (some (.int .i64 k)) κ=κ (sb (l.take k)) := fun κ => by
      show br (Nat.ble (Nat.succ k) 9223372036854775808) (br (Nat.ble 0 k) (br (Nat.ble k l.length) (Aa (Nat.sub k 0) fun m => Aa (Ev.lo (sh (Ar l) 0) m) fun r => κ (.str m r)) (.fail "")) (.fail "")) (.fail "")=_
      rw [show Nat.ble (Nat.succ k) 9223372036854775808=true from Ab.2 (by omega), Ac, show Nat.ble 0 k=true from Ab.2 (Nat.zero_le _), Ac, show Nat.ble k l.length=true from Ab.2 (by omega), Ac, A7, A7, Er, List.drop_zero]
      show κ (.str k (Ar (l.take k)))=κ (.str (l.take k).length (Ar (l.take k)))
      rw [List.length_take, Nat.min_eq_left (by omega)]
    simp (config := {maxSteps := 3000000}) (disch := omega) only [qa,g0,g1,g2,g3,g4,g5,g6,g7,g8,g9,Bt,Bp,Bo,BC,BE,By,BF,g17,Bx,Bv,w0,w1,w2,w3,w4,w5,w6,w7,w8,w9,Bn,Bm,Br,BG,Bz,BB,BA,BD,Bw,Bu,Mk,Nat.reduceAdd,Nat.reduceSub,Nat.reduceMul,Nat.reduceMod,Nat.reduceDiv,Q0,U,en1,e1,e2]
  · rw [List.take_of_length_le (by omega)]
    simp (config := {maxSteps := 3000000}) (disch := omega) only [qa,g0,g1,g2,g3,g4,g5,g6,g7,g8,g9,Bt,Bp,Bo,BC,BE,By,BF,g17,Bx,Bv,w0,w1,w2,w3,w4,w5,w6,w7,w8,w9,Bn,Bm,Br,BG,Bz,BB,BA,BD,Bw,Bu,Mk,Nat.reduceAdd,Nat.reduceSub,Nat.reduceMul,Nat.reduceMod,Nat.reduceDiv,Q0,U,en1,e1]
theorem cut_ok {m k:Nat} {r:Rec} {h:Heap} {n:K4} (hl:r.body.length<9223372036854775808) (hk:k<9223372036854775808) (hn:n.toN<60000) :
    ∃ h', Al tab (m+2) ⟨.d0, .d1, .d2⟩ [.agg (rcs r), .int .i64 k] h n = .rv (.agg (rcs (cutR r k))) h' n.up.up∧(∀ q:K4, q.toN<n.toN->A9 q h'=A9 q h)∧(Ay h n->Ay h' n.up.up) := by
  have u1 := K4.up_toN (p := n) (by omega)
  have u2 := K4.up_toN (p := n.up) (by omega)
  obtain ⟨h1, h1e⟩:∃ x, Ae n h (some (.c (.l (rl r.kind r.ten r.ep r.ob r.sq (sb r.body))) false none))=x := ⟨_, rfl⟩
  obtain ⟨h2, h2e⟩:∃ x, Ae n.up h1 (some (.c (.l (rl 0 0 0 0 0 (.str 0 0))) false none))=x := ⟨_, rfl⟩
  obtain ⟨h3, h3e⟩:∃ x, Ae n h2 (some (.c (.l (rl r.kind r.ten r.ep r.ob r.sq (sb (r.body.take k)))) false none))=x := ⟨_, rfl⟩
  obtain ⟨h4, h4e⟩:∃ x, Ae n.up h3 (some (.c (.l (rl r.kind r.ten r.ep r.ob r.sq (sb (r.body.take k)))) false none))=x := ⟨_, rfl⟩
  have f1:∀ q:K4, q≠n->A9 q h1=A9 q h := fun q hq => by rw [←h1e]; exact A8 _ _ hq.symm
  have f2:∀ q:K4, q≠n.up->A9 q h2=A9 q h1 := fun q hq => by rw [←h2e]; exact A8 _ _ hq.symm
  have f3:∀ q:K4, q≠n->A9 q h3=A9 q h2 := fun q hq => by rw [←h3e]; exact A8 _ _ hq.symm
  have f4:∀ q:K4, q≠n.up->A9 q h4=A9 q h3 := fun q hq => by rw [←h4e]; exact A8 _ _ hq.symm
  have ne:∀ {p q:K4}, p.toN<q.toN->p≠q := fun h => K4.ne_of_lt h
  have y1:A9 n h1=some (.c (.l (rl r.kind r.ten r.ep r.ob r.sq (sb r.body))) false none) := by rw [←h1e]; exact A6 _ _ _
  have y2:A9 n h2=some (.c (.l (rl r.kind r.ten r.ep r.ob r.sq (sb r.body))) false none) := (f2 n (ne (by omega))).trans y1
  have y3:A9 n h3=some (.c (.l (rl r.kind r.ten r.ep r.ob r.sq (sb (r.body.take k)))) false none) := by rw [←h3e]; exact A6 _ _ _
  have y3b:A9 n.up h3=some (.c (.l (rl 0 0 0 0 0 (.str 0 0))) false none) := (f3 _ (ne (by omega)).symm).trans (by rw [←h2e]; exact A6 _ _ _)
  have y4:A9 n.up h4=some (.c (.l (rl r.kind r.ten r.ep r.ob r.sq (sb (r.body.take k)))) false none) := by rw [←h4e]; exact A6 _ _ _
  have ec := cutS_ok (m := m) (k := k) (l := r.body) (h := h2) (n := n.up.up) hl hk
  have sst:∀ {p:K4} {o:Nat} {h:Heap} {κ:Heap->R}, Bb (.ptr p o) (sb (r.body.take k)) h κ=TM (A9 p h) h p o (sb (r.body.take k)) κ := OE _ _ _ _ _ _
  have stE:∀ κ:Heap->R, CX 6 (.ptr n.up 0) (.agg (rl r.kind r.ten r.ep r.ob r.sq (sb (r.body.take k)))) h3 κ=κ h4 := fun κ => (q_st6' y3b κ).trans (by rw [←h4e])
  refine ⟨h4, ?_, fun q hq => (f4 q (ne (by omega))).trans ((f3 q (ne hq)).trans ((f2 q (ne (by omega))).trans (f1 q (ne hq)))), fun hf q hq => (f4 q (ne (by omega)).symm).trans ((f3 q (ne (by omega)).symm).trans ((f2 q (ne (by omega)).symm).trans ((f1 q (ne (by omega)).symm).trans (hf q (by omega)))))⟩
  rw [call2_at, show B5 ⟨.d0, .d1, .d2⟩ tab=some x18 from rfl, x18]
  show Kf _ _ [.agg (rl r.kind r.ten r.ep r.ob r.sq (sb r.body)), .int .i64 k] h n=R.rv (.agg (rl r.kind r.ten r.ep r.ob r.sq (sb (r.body.take k)))) h4 n.up.up
  simp (config := {maxSteps := 3000000}) (disch := omega) only [qa,g0,g1,g2,g3,g4,g5,g6,g7,g8,g9,Bt,Bp,Bo,BC,BE,By,BF,g17,Bx,Bv,w0,w1,w2,w3,w4,w5,w6,w7,w8,w9,Bn,Bm,Br,BG,Bz,BB,BA,BD,Bw,Bu,Mk,Nat.reduceAdd,Nat.reduceSub,Nat.reduceMul,Nat.reduceMod,Nat.reduceDiv,Q0,U,en1,q_iW,q_iL,q_iB,h1e,h2e,y2,ec,sst,h3e,y3,EW,stE,q_celN,y4]
noncomputable def sbT (c:Fz):S->Heap->K4->R := fun t h n=>g5 t fun zo=>g7 t fun zp=>gO zo h n (fun k=>CK 6 zp h k) fun zq h n=>Cc true zo h n (fun k=>Ag (c ⟨.d0,.d1,.d3⟩ [zq] h n) k) fun zr h n=>AI zo zr (.bool false) fun zs=>gO zs h n (fun k=>Ak 1 zp k) fun zt h n=>gO zs h n (fun k=>Au zt h k) fun zu h n=>g0 t fun zv=>gK zs zv h n fun zw h n=>gO zs h n (fun k=>BH zu zw k) fun zx h n=>AI zs zx (.bool false) fun zy=>g4 t fun zz=>CK 6 zp h fun z10=>Dg 0 6 z10 [(iI 0),(iW 0),(iL 0),(iL 0),(iL 0),(.str 0 0)] fun z11=>Cp false 1 6 z11 h n fun z12 h n=>C3 6 56 zz z12 h n fun z13 h n=>w4 t z13 fun t=>w5 t zy fun t=>nR t h n
noncomputable def sbLB (c:Fz):S->Heap->K4->R := fun t h n=>g6 t fun z9=>g1 t fun za=>AJ za fun zb=>Ba z9 zb fun zc=>gK zc z9 h n fun zd h n=>gO zc h n (fun k=>Ba zd (iI 6) k) fun ze h n=>AI zc ze (.bool false) fun zf=>BM zf (Ao 1 (AY 6 za z9 fun zg=>CK 6 zg h fun zh=>Ag (c ⟨.d0,.d1,.d2⟩ [zh,(iI 100)] h n) fun zi h n=>Dz (.l [(iI 0),(iW 0),(iL 0),(iL 0),(iL 0),(.str 0 0)]) h n fun zj h n=>CX 6 zj zi h fun h=>FQ z9 (iI 2) fun zk=>BH zk (iI 0) fun zl=>C9 (BM zl (g0 t fun zm=>Ak 1 zj fun zn=>Bb zn zm h fun h=>w7 t zj fun t=>nR t h n) (w7 t zj fun t=>nR t h n)) (sbT c)) fun t h n=>g6 t fun z14=>AM z14 (iI 1) fun z15=>w6 t z15 fun t=>nR t h n)<|.ok (.exit 0) t h n
noncomputable def x4L:Ent := .code en1 (fun c t h n=>Ag (c ⟨.d0,.d0,.d15⟩ [] h n) fun z1 h n=>EN z1 fun z2=>BM z2 (w2 t (.bool false) fun t=>rT t h n)<|Ag (c ⟨.d0,.d1,.d0⟩ [(iI 1048576)] h n) fun z3 h n=>g0 t fun z4=>Ag (c ⟨.d0,.d1,.d1⟩ [z3,z4,(iI 1)] h n) fun z5 h n=>B6 0 z5 fun z6=>B6 1 z5 fun z7=>Cw z7 (iI 0) fun z8=>BM z8 (w2 t (.bool false) fun t=>w3 t z6 fun t=>rT t h n)<|Ao 0 (w2 t (.bool false) fun t=>w3 t z6 fun t=>w4 t (.nil .sl) fun t=>w5 t (.bool true) fun t=>w6 t (iI 0) fun t=>C0 (sbLB c) t h n) fun t h n=>g3 t fun z16=>g4 t fun z17=>Ag (c ⟨.d0,.d1,.d4⟩ [z16,z17] h n) fun z18 h n=>B6 0 z18 fun z19=>B6 1 z18 fun z1a=>g5 t fun z1b=>gK z1b z17 h n fun z1c h n=>gO z1b h n (fun k=>AJ z1c k) fun z1d h n=>gO z1b h n (fun k=>DT z1d (iI 0) k) fun z1e h n=>AI z1b z1e (.bool false) fun z1f=>BM z1f (BH z1a (iI 0) fun z1g=>gK z1g z19 h n fun z1h h n=>gO z1g h n (fun k=>AJ z1h k) fun z1i h n=>gK z1g z17 h n fun z1j h n=>gO z1g h n (fun k=>AJ z1j k) fun z1k h n=>gO z1g h n (fun k=>BH z1i z1k k) fun z1l h n=>AI z1g z1l (.bool false) fun z1m=>w2 t z1m fun t=>rT t h n)<|BH z1a (iI 5) fun z1n=>gK z1n z19 h n fun z1o h n=>gO z1n h n (fun k=>AJ z1o k) fun z1p h n=>gO z1n h n (fun k=>BH z1p (iI 0) k) fun z1q h n=>AI z1n z1q (.bool false) fun z1r=>gK z1r z16 h n fun z1s h n=>Cc true z1r h n (fun k=>Ag (c ⟨.d0,.d1,.d5⟩ [z1s] h n) k) fun z1t h n=>gO z1r h n (fun k=>BH z1t (iI 0) k) fun z1u h n=>AI z1r z1u (.bool false) fun z1v=>gK z1v z16 h n fun z1w h n=>Cc true z1v h n (fun k=>Ag (c ⟨.d0,.d1,.d6⟩ [z1w] h n) k) fun z1x h n=>gO z1v h n (fun k=>AJ z1x k) fun z1y h n=>gO z1v h n (fun k=>BH z1y (iI 0) k) fun z1z h n=>AI z1v z1z (.bool false) fun z20=>w2 t z20 fun t=>rT t h n) (fun t h n=>g2 t fun a0=>.rv a0 h n)
theorem x4_L:x4=x4L := rfl
theorem rngO_6 (a b c d e f:V) (s:Bool) (pr:Option K4) (κ:Cs->R):Tl (some (.c (.l [a, b, c, d, e, f]) s pr)) 0 6 κ=κ (.l [a, b, c, d, e, f]) := id rfl
/-- A record is added to a slice of one's own. -/
theorem add_rec {lo k:Nat} {h:Heap} {n:K4} {mv:V} {cs:List V} {r:Rec} (O:FE lo n h 6 mv cs k) (hlo:lo≤n.toN) (hk:k≤1000) (hn:n.toN<60000) :
    ∃ mv' h' n', (∀ κ:KV, BR 6 56 mv 1 (.l (rl r.kind r.ten r.ep r.ob r.sq (sb r.body))) (Ae n h (some (.c (.l (rl r.kind r.ten r.ep r.ob r.sq (sb r.body))) false none))) n.up κ=κ mv' h' n')∧FE lo n' h' 6 mv' (cs++rcs r) (k+1)∧n.toN≤n'.toN∧n'.toN≤n.toN+2∧(∀ q:K4, q.toN<lo->A9 q h'=A9 q h)∧(Ay h n->Ay h' n') := by
  have u1 := K4.up_toN (p := n) (by omega)
  have u2 := K4.up_toN (p := n.up) (by omega)
  obtain ⟨h2, pr, e, _, O2, f, r2⟩ := Xn (eb := 56) (b := rcs r) (m := 1) (n := n.up) (h := Ae n h (some (.c (.l (rl r.kind r.ten r.ep r.ob r.sq (sb r.body))) false none))) (O.frame (by omega) fun q _ hq => As hq _ _) (by omega) rfl (by omega) (by omega) (by omega)
  exact ⟨_, h2, _, e, O2, by omega, by omega, fun q hq => (f q hq).trans (As (by omega) _ _), fun hf => r2 fun q hq => (AG (by omega) _ _).trans (hf q (by omega))⟩
theorem sb_tail {m lo id k:Nat} {ok:Bool} {h:Heap} {n q:K4} {lv mv d2 d3 iv:V} {cs:List V} {r:Rec} {c2 c3 c4 c5 c6 c7:SQ} (O:FE lo n h 6 mv cs k) (hlo:lo≤n.toN) (hk:k≤1000) (hr:RecOK r) (hid:id<4294967296) (hq:A9 q h=some (.c (.l (rl r.kind r.ten r.ep r.ob r.sq (sb r.body))) false none)) (hqn:q.toN<n.toN) (hn:n.toN<59000) :
    ∃ ok' mv' h' n', sbT (Al tab (m+1)) (.mk (.mk (.int .u32 id) lv d2 d3) (.mk mv (.bool ok) iv (.ptr q 0)) c2 c3 c4 c5 c6 c7) h n = .ok .nrm (.mk (.mk (.int .u32 id) lv d2 d3) (.mk mv' (.bool ok') iv (.ptr q 0)) c2 c3 c4 c5 c6 c7) h' n' ∧
      (ok'=true ↔ ok=true∧RecMay r∧r.ten=id)∧FE lo n' h' 6 mv' (cs++rcs r) (k+1)∧n.toN≤n'.toN∧n'.toN≤n.toN+3∧(∀ q:K4, q.toN<lo->A9 q h'=A9 q h)∧(Ay h n->Ay h' n') := by
  have u1 := K4.up_toN (p := n) (by omega)
  have z7 := hr.ten
  cases ok with
  | false =>
    obtain ⟨mv', h', n', e, O', a, b, f, rr⟩ := add_rec (r := r) O hlo hk (by omega)
    refine ⟨false, mv', h', n', ?_, by simp, O', a, by omega, f, rr⟩
    unfold sbT
    simp (config := {maxSteps := 3000000}) (disch := omega) only [qa,g0,g1,g2,g3,g4,g5,g6,g7,g8,g9,Bt,Bp,Bo,BC,BE,By,BF,g17,Bx,Bv,w0,w1,w2,w3,w4,w5,w6,w7,w8,w9,Bn,Bm,Br,BG,Bz,BB,BA,BD,Bw,Bu,Mk,Nat.reduceAdd,Nat.reduceSub,Nat.reduceMul,Nat.reduceMod,Nat.reduceDiv,Q0,U,q_iW,q_iL,q_iB,hq,EW,part_06,rngO_6,e,eq_self,CI,CC,Ct,Cq,BO,BI,Nat.add_zero]
  | true =>
    have hq2:A9 q (Ae n h (some (.c (.l (rcs r)) false none)))=some (.c (.l (rl r.kind r.ten r.ep r.ob r.sq (sb r.body))) false none) := (As hqn _ _).trans hq
    obtain ⟨h1, h1e⟩:∃ x, Ae n h (some (.c (.l (rcs r)) false none))=x := ⟨_, rfl⟩
    rw [h1e] at hq2
    have f1:∀ q:K4, q≠n->A9 q h1=A9 q h := fun q hq => by rw [←h1e]; exact A8 _ _ hq.symm
    obtain ⟨mv', h', n', e, O', a, b, f, rr⟩ := add_rec (r := r) (h := h1) (n := n.up) (O.frame (by omega) fun q _ hq => f1 q (K4.ne_of_lt hq)) (by omega) hk (by omega)
    have rr':Ay h n->Ay h' n' := fun hf => rr fun q hq => (f1 q (K4.ne_of_lt (by omega)).symm).trans (hf q (by omega))
    by_cases hM:RecMay r
    · have em:Al tab (m+1) ⟨.d0, .d1, .d3⟩ [.agg (rl r.kind r.ten r.ep r.ob r.sq (sb r.body))] h n = .rv (.bool true) h1 n.up := (may2_yes (m := m) hM (by omega)).trans (by rw [h1e])
      by_cases ht:r.ten=id
      · subst ht
        refine ⟨true, mv', h', n', ?_, by simp [hM], O', by omega, by omega, fun q hq => (f q hq).trans (f1 q (K4.ne_of_lt (by omega))), rr'⟩
        unfold sbT
        simp (config := {maxSteps := 3000000}) (disch := omega) only [qa,g0,g1,g2,g3,g4,g5,g6,g7,g8,g9,Bt,Bp,Bo,BC,BE,By,BF,g17,Bx,Bv,w0,w1,w2,w3,w4,w5,w6,w7,w8,w9,Bn,Bm,Br,BG,Bz,BB,BA,BD,Bw,Bu,Mk,Nat.reduceAdd,Nat.reduceSub,Nat.reduceMul,Nat.reduceMod,Nat.reduceDiv,Q0,U,q_iW,q_iL,q_iB,hq,hq2,EW,em,part_06,rngO_6,e,eq_self,CI,CC,Ct,Cq,BO,BI,Nat.add_zero]
      · refine ⟨false, mv', h', n', ?_, by simp [ht], O', by omega, by omega, fun q hq => (f q hq).trans (f1 q (K4.ne_of_lt (by omega))), rr'⟩
        unfold sbT
        simp (config := {maxSteps := 3000000}) (disch := omega) only [qa,g0,g1,g2,g3,g4,g5,g6,g7,g8,g9,Bt,Bp,Bo,BC,BE,By,BF,g17,Bx,Bv,w0,w1,w2,w3,w4,w5,w6,w7,w8,w9,Bn,Bm,Br,BG,Bz,BB,BA,BD,Bw,Bu,Mk,Nat.reduceAdd,Nat.reduceSub,Nat.reduceMul,Nat.reduceMod,Nat.reduceDiv,Q0,U,q_iW,q_iL,q_iB,hq,hq2,EW,em,part_06,rngO_6,e,eq_self,CI,CC,Ct,Cq,BO,BI,Nat.add_zero]
    · have em:Al tab (m+1) ⟨.d0, .d1, .d3⟩ [.agg (rl r.kind r.ten r.ep r.ob r.sq (sb r.body))] h n = .rv (.bool false) h1 n.up := (may2_no (m := m) hr hM (by omega)).trans (by rw [h1e])
      refine ⟨false, mv', h', n', ?_, by simp [hM], O', by omega, by omega, fun q hq => (f q hq).trans (f1 q (K4.ne_of_lt (by omega))), rr'⟩
      unfold sbT
      simp (config := {maxSteps := 3000000}) (disch := omega) only [qa,g0,g1,g2,g3,g4,g5,g6,g7,g8,g9,Bt,Bp,Bo,BC,BE,By,BF,g17,Bx,Bv,w0,w1,w2,w3,w4,w5,w6,w7,w8,w9,Bn,Bm,Br,BG,Bz,BB,BA,BD,Bw,Bu,Mk,Nat.reduceAdd,Nat.reduceSub,Nat.reduceMul,Nat.reduceMod,Nat.reduceDiv,Q0,U,q_iW,q_iL,q_iB,hq,hq2,EW,em,part_06,rngO_6,e,eq_self,CI,CC,Ct,Cq,BO,BI,Nat.add_zero]
/-- What the law makes of a record. -/
def fixR (id i:Nat) (r:Rec):Rec := if i % 2=0 then { cutR r 100 with ten := id } else cutR r 100
theorem fixR_ok {id i:Nat} {r:Rec} (hid:id<4294967296) (h:RecOK { r with body := [] }):RecOK (fixR id i r) := by
  have h0:∀ b:List UInt8, b.length≤2000->∀ t, t<4294967296->RecOK { r with body := b, ten := t } := fun b hb t ht => ⟨h.kind, ht, h.ep, h.ob, h.sq, hb⟩
  have hb:(r.body.take 100).length≤2000 := by rw [List.length_take]; omega
  unfold fixR
  split
  · exact h0 _ hb id hid
  · exact h0 _ hb r.ten h.ten
theorem sb_round {m lo id k i K:Nat} {ok:Bool} {h:Heap} {n:K4} {mv d2 d3 d7:V} {cs:List V} {rs:List Rec} {c2 c3 c4 c5 c6 c7:SQ} (O:FE lo n h 6 mv cs k) (hlo:lo≤n.toN) (hk:k≤1000) (hi:i<rs.length) (hi6:i<6) (hK:rs.length<9223372036854775808) (hr:RecOK { (rs[i]'hi) with body := [] }) (hbl:(rs[i]'hi).body.length<9223372036854775808) (hid:id<4294967296) (hn:n.toN<58000) :
    ∃ ok' mv' h' n' d7', sbLB (Al tab (m+2)) (.mk (.mk (.int .u32 id) (.oth (.rx (rvRs rs) rs.length 6)) d2 d3) (.mk mv (.bool ok) (.int .i64 i) d7) c2 c3 c4 c5 c6 c7) h n = .ok .nrm (.mk (.mk (.int .u32 id) (.oth (.rx (rvRs rs) rs.length 6)) d2 d3) (.mk mv' (.bool ok') (.int .i64 (i+1)) d7') c2 c3 c4 c5 c6 c7) h' n' ∧
      (ok'=true ↔ ok=true∧RecMay (fixR id i (rs[i]'hi))∧(fixR id i (rs[i]'hi)).ten=id)∧FE lo n' h' 6 mv' (cs++rcs (fixR id i (rs[i]'hi))) (k+1)∧n.toN≤n'.toN∧n'.toN≤n.toN+8∧(∀ q:K4, q.toN<lo->A9 q h'=A9 q h)∧(Ay h n->Ay h' n') := by
  have u1 := K4.up_toN (p := n) (by omega)
  have u2 := K4.up_toN (p := n.up) (by omega)
  have u3 := K4.up_toN (p := n.up.up) (by omega)
  have hF := fixR_ok (i := i) hid hr
  obtain ⟨t, et⟩ := rvRs_at rs i hi
  have ei:∀ κ:V->R, AY 6 (.oth (.rx (rvRs rs) rs.length 6)) (.int .i64 i) κ=κ (.oth (.rp (rvR (rs[i]'hi)++t))) := fun κ => by rw [ix_rx6 hi (by omega), et]
  have el := fun (h:Heap) (κ:V->R) => ldn_rp6 (rs[i]'hi) t h κ
  obtain ⟨h1, e1, f1, r1⟩ := cut_ok (m := m) (k := 100) (r := rs[i]'hi) (h := h) (n := n) hbl (by omega) (by omega)
  have ht:(cutR (rs[i]'hi) 100).ten=(rs[i]'hi).ten := rfl
  generalize rs[i]'hi=r at *
  obtain ⟨hR, hRe⟩:∃ x, Ae n.up.up h1 (some (.c (.l (rcs (cutR r 100))) false none))=x := ⟨_, rfl⟩
  have fR:∀ q:K4, q≠n.up.up->A9 q hR=A9 q h1 := fun q hq => by rw [←hRe]; exact A8 _ _ hq.symm
  have ne:∀ {p q:K4}, p.toN<q.toN->p≠q := fun h => K4.ne_of_lt h
  have yR:A9 n.up.up hR=some (.c (.l (rl r.kind r.ten r.ep r.ob r.sq (sb (r.body.take 100)))) false none) := by rw [←hRe]; exact A6 _ _ _
  have e6:∀ κ:Heap->R, CX 6 (.ptr n.up.up 0) (.agg (rcs (cutR r 100))) (Ae n.up.up h1 (some (.c (.l (rl 0 0 0 0 0 (.str 0 0))) false none))) κ=κ hR := fun κ => (PX _ _ _ _ _ _ _ _ _ _ _ _ _ _ κ).trans (by rw [←hRe]; rfl)
  have lln:∀ κ, AJ (.oth (.rx (rvRs rs) rs.length 6)) κ=κ (.int .i64 rs.length) := fun κ => Ok hK κ
  have hrem:∀ κ, FQ (.int .i64 i) (.int .i64 2) κ=κ (.int .i64 (i % 2)) := fun κ => PY (k := .i64) (show i<9223372036854775808 by omega) (by decide) (by omega) κ
  by_cases hp:i % 2=0
  · have hfx:fixR id i r={ cutR r 100 with ten := id } := if_pos hp
    rw [hfx] at hF ⊢
    obtain ⟨hS, hSe⟩:∃ x, Ae n.up.up hR (some (.c (.l (rl r.kind id r.ep r.ob r.sq (sb (r.body.take 100)))) false none))=x := ⟨_, rfl⟩
    have fS:∀ q:K4, q≠n.up.up->A9 q hS=A9 q hR := fun q hq => by rw [←hSe]; exact A8 _ _ hq.symm
    have yS:A9 n.up.up hS=some (.c (.l (rl r.kind id r.ep r.ob r.sq (sb (r.body.take 100)))) false none) := by rw [←hSe]; exact A6 _ _ _
    obtain ⟨ok', mv', h', n', e, hok, O', a, b, f, rr⟩ := sb_tail (m := m+1) (id := id) (ok := ok) (h := hS) (n := n.up.up.up) (q := n.up.up) (lv := .oth (.rx (rvRs rs) rs.length 6)) (d2 := d2) (d3 := d3) (iv := .int .i64 i) (c2 := c2) (c3 := c3) (c4 := c4) (c5 := c5) (c6 := c6) (c7 := c7) (r := { cutR r 100 with ten := id }) (O.frame (n' := n.up.up.up) (h' := hS) (by omega) fun q _ hq => (fS q (ne (by omega))).trans ((fR q (ne (by omega))).trans (f1 q hq))) (by omega) hk hF hid yS (by omega) (by omega)
    refine ⟨ok', mv', h', n', .ptr n.up.up 0, ?_, hok, O', by omega, by omega, fun q hq => (f q hq).trans ((fS q (ne (by omega))).trans ((fR q (ne (by omega))).trans (f1 q (by omega)))), fun hf => rr fun q hq => (fS q (ne (by omega)).symm).trans ((fR q (ne (by omega)).symm).trans (r1 hf q (by omega)))⟩
    unfold sbLB
    simp (config := {maxSteps := 3000000}) (disch := omega) only [qa,g0,g1,g2,g3,g4,g5,g6,g7,g8,g9,Bt,Bp,Bo,BC,BE,By,BF,g17,Bx,Bv,w0,w1,w2,w3,w4,w5,w6,w7,w8,w9,Bn,Bm,Br,BG,Bz,BB,BA,BD,Bw,Bu,Mk,Nat.reduceAdd,Nat.reduceSub,Nat.reduceMul,Nat.reduceMod,Nat.reduceDiv,Q0,U,lln,q_iW,q_iL,q_iB,ei,el,e1,e6,hrem,hp,yR,hSe,e,eq_self,CI,CC,Ct,Cq,BO,BI,Nat.add_zero]
  · have hfx:fixR id i r=cutR r 100 := if_neg hp
    rw [hfx] at hF ⊢
    obtain ⟨ok', mv', h', n', e, hok, O', a, b, f, rr⟩ := sb_tail (m := m+1) (id := id) (ok := ok) (h := hR) (n := n.up.up.up) (q := n.up.up) (lv := .oth (.rx (rvRs rs) rs.length 6)) (d2 := d2) (d3 := d3) (iv := .int .i64 i) (c2 := c2) (c3 := c3) (c4 := c4) (c5 := c5) (c6 := c6) (c7 := c7) (r := cutR r 100) (O.frame (n' := n.up.up.up) (h' := hR) (by omega) fun q _ hq => (fR q (ne (by omega))).trans (f1 q hq)) (by omega) hk hF hid yR (by omega) (by omega)
    refine ⟨ok', mv', h', n', .ptr n.up.up 0, ?_, hok, O', by omega, by omega, fun q hq => (f q hq).trans ((fR q (ne (by omega))).trans (f1 q (by omega))), fun hf => rr fun q hq => (fR q (ne (by omega)).symm).trans (r1 hf q (by omega))⟩
    unfold sbLB
    simp (config := {maxSteps := 3000000}) (disch := omega) only [qa,g0,g1,g2,g3,g4,g5,g6,g7,g8,g9,Bt,Bp,Bo,BC,BE,By,BF,g17,Bx,Bv,w0,w1,w2,w3,w4,w5,w6,w7,w8,w9,Bn,Bm,Br,BG,Bz,BB,BA,BD,Bw,Bu,Mk,Nat.reduceAdd,Nat.reduceSub,Nat.reduceMul,Nat.reduceMod,Nat.reduceDiv,Q0,U,lln,q_iW,q_iL,q_iB,ei,el,e1,e6,hrem,decide_eq_false hp,yR,e,eq_self,CI,CC,Ct,Cq,BO,BI,Nat.add_zero]
/-- A slice of records among the arguments. -/
def RVL (lv:V) (rs:List Rec):Prop := (lv = .nil .sl∧rs=[])∨lv = .oth (.rx (rvRs rs) rs.length 6)
theorem RVL.len {lv:V} {rs:List Rec} (H:RVL lv rs) (hl:rs.length<9223372036854775808) (κ:V->R):AJ lv κ=κ (.int .i64 rs.length) := by
  rcases H with ⟨rfl, rfl⟩ | rfl
  · rfl
  · exact Ok hl κ
/-- A record as it may be told. -/
def RecIn (r:Rec):Prop := RecOK { r with body := [] }∧r.body.length<9223372036854775808
theorem sb_loop {m lo id:Nat} {lv d2 d3:V} {rs:List Rec} {c2 c3 c4 c5 c6 c7:SQ} (HL:RVL lv rs) (hK:rs.length<9223372036854775808) (hr:∀ r∈rs, RecIn r) (hid:id<4294967296) :
    ∀ (j i:Nat) (ms:List Rec) (ok:Bool) (h:Heap) (n:K4) (mv d7:V), i+j=min rs.length 6->ms.length=i->(∀ r∈ms, RecOK r)->(ok=true ↔ ∀ r∈ms, RecMay r∧r.ten=id)->FE lo n h 6 mv (cellsR ms) i->lo≤n.toN->Ay h n->n.toN+8*j<58000 →
    ∃ ms' ok' mv' h' n' d7', (∀ K, DH (sbLB (Al tab (m+2))) (K+j+1) (.mk (.mk (.int .u32 id) lv d2 d3) (.mk mv (.bool ok) (.int .i64 i) d7) c2 c3 c4 c5 c6 c7) h n = .ok (.exit 0) (.mk (.mk (.int .u32 id) lv d2 d3) (.mk mv' (.bool ok') (.int .i64 (min rs.length 6)) d7') c2 c3 c4 c5 c6 c7) h' n') ∧
      ms'.length=min rs.length 6∧(∀ r∈ms', RecOK r)∧(ok'=true ↔ ∀ r∈ms', RecMay r∧r.ten=id)∧FE lo n' h' 6 mv' (cellsR ms') (min rs.length 6)∧n.toN≤n'.toN∧n'.toN≤n.toN+8*j∧(∀ q:K4, q.toN<lo->A9 q h'=A9 q h)∧Ay h' n' := by
  intro j
  induction j with
  | zero =>
    intro i ms ok h n mv d7 hi hm hR hok O hlo hfr hn
    obtain rfl:i=min rs.length 6 := by omega
    refine ⟨ms, ok, mv, h, n, d7, fun K => ?_, hm, hR, hok, O, by omega, by omega, fun q _ => rfl, hfr⟩
    have lln := fun κ => HL.len hK κ
    rw [Dh]
    unfold sbLB
    rcases Nat.lt_or_ge rs.length 7 with h7 | h7
    · have e:min rs.length 6=rs.length := by omega
      rw [e]
      simp (config := {maxSteps := 3000000}) (disch := omega) only [qa,g0,g1,g2,g3,g4,g5,g6,g7,g8,g9,Bt,Bp,Bo,BC,BE,By,BF,g17,Bx,Bv,w0,w1,w2,w3,w4,w5,w6,w7,w8,w9,Bn,Bm,Br,BG,Bz,BB,BA,BD,Bw,Bu,Mk,Nat.reduceAdd,Nat.reduceSub,Nat.reduceMul,Nat.reduceMod,Nat.reduceDiv,Q0,U,lln,CI,CC,Ct,Cq,BO,BI]
    · have e:min rs.length 6=6 := by omega
      rw [e]
      simp (config := {maxSteps := 3000000}) (disch := omega) only [qa,g0,g1,g2,g3,g4,g5,g6,g7,g8,g9,Bt,Bp,Bo,BC,BE,By,BF,g17,Bx,Bv,w0,w1,w2,w3,w4,w5,w6,w7,w8,w9,Bn,Bm,Br,BG,Bz,BB,BA,BD,Bw,Bu,Mk,Nat.reduceAdd,Nat.reduceSub,Nat.reduceMul,Nat.reduceMod,Nat.reduceDiv,Q0,U,lln,CI,CC,Ct,Cq,BO,BI]
  | succ j ih =>
    intro i ms ok h n mv d7 hi hm hR hok O hlo hfr hn
    have hi':i<rs.length := by omega
    obtain rfl:lv = .oth (.rx (rvRs rs) rs.length 6) := by
      rcases HL with ⟨_, rfl⟩ | h
      · cases hi'
      · exact h
    have hin := hr _ (List.getElem_mem hi')
    obtain ⟨ok1, mv1, h1, n1, d71, e1, hok1, O1, a1, b1, f1, r1⟩ := sb_round (m := m) (K := 0) (ok := ok) (d2 := d2) (d3 := d3) (d7 := d7) (c2 := c2) (c3 := c3) (c4 := c4) (c5 := c5) (c6 := c6) (c7 := c7) O hlo (by omega) hi' (by omega) hK hin.1 hin.2 hid (by omega)
    have hF := fixR_ok (i := i) hid hin.1
    have hcs:cellsR (ms++[fixR id i (rs[i]'hi')])=cellsR ms++rcs (fixR id i (rs[i]'hi')) := by rw [cellsR_app, cellsR, cellsR, List.append_nil]
    obtain ⟨ms', ok', mv', h', n', d7', e2, q1, q2, q3, q4, q5, q6, q7, q8⟩ := ih (i+1) (ms++[fixR id i (rs[i]'hi')]) ok1 h1 n1 mv1 d71 (by omega) (by rw [List.length_append, hm]; rfl) (fun r h => by
      rcases List.mem_append.1 h with h | h
      · exact hR r h
      · rw [List.mem_singleton.1 h]; exact hF) (hok1.trans ⟨fun h r hx => by
        rcases List.mem_append.1 hx with hx | hx
        · exact hok.1 h.1 r hx
        · rw [List.mem_singleton.1 hx]; exact h.2, fun h => ⟨hok.2 fun r hx => h r (List.mem_append_left _ hx), h _ (List.mem_append_right _ (List.mem_singleton.2 rfl))⟩⟩) (by rw [hcs]; exact O1) (by omega) (r1 hfr) (by omega)
    refine ⟨ms', ok', mv', h', n', d7', fun K => ?_, q1, q2, q3, q4, by omega, by omega, fun q hq => (q7 q hq).trans (f1 q hq), q8⟩
    rw [show K+(j+1)+1=(K+j+1)+1 by omega, Dh, e1, Gq]
    exact e2 K
theorem sb_run {id:Nat} {lv:V} {rs:List Rec} (HL:RVL lv rs) (hK:rs.length<9223372036854775808) (hr:∀ r∈rs, RecIn r) (hid:id<4294967296) :
    UZ (Al tab 31 ⟨.d0, .d0, .d4⟩ [.int .u32 id, lv] AN Z9)=true := by
  obtain ⟨h1, n1, e1, b1, f1⟩ := WD begun15
  have u1 := K4.up_toN (p := n1) (by omega)
  have u2 := K4.up_toN (p := n1.up) (by omega)
  have u3 := K4.up_toN (p := n1.up.up) (by omega)
  have e2 := new_ok (m := 27) (h := h1) (n := n1) (room := 1048576) (by omega) (by omega)
  rw [show 27+3=30 from rfl] at e2
  generalize hA:Ae n1.up.up (Ae n1.up (Ae n1 h1 (some (.m [] [] 0))) (some (.m [] [] 0))) (some (.c (.l (fsC 1048576 0 0 18446744073709551615 (.map n1) (.map n1.up) (.nil .sl))) false none))=A at e2
  have a1:A9 n1.up.up A=some (.c (.l (fsC 1048576 0 0 18446744073709551615 (.map n1) (.map n1.up) (.nil .sl))) false none) := by rw [←hA, A6]
  have a2:A9 n1 A=some (.m [] [] 0) := by rw [←hA]; simp (disch := omega) only [As,AG,A6]
  have a3:Ay A n1.up.up.up := fun q hq => by rw [←hA]; simp (disch := omega) only [AG]; exact f1 q (by omega)
  obtain ⟨h2, n2, x, dm, pc, sp, lw, e3, b2, b3, G⟩ := gcreate_ok (m := 25) (num := 1) hid (by omega) a1 a2 a3 (by omega) (by omega) (by omega) (by omega)
  rw [show 25+5=30 from rfl] at e3
  obtain ⟨ms, ok, mv, h3, n3, d7, eL, q1, q2, q3, q4, q5, q6, q7, q8⟩ := sb_loop (m := 28) (lo := n2.toN) (d2 := .bool false) (d3 := .ptr sp 0) (c2 := Q0) (c3 := Q0) (c4 := Q0) (c5 := Q0) (c6 := Q0) (c7 := Q0) HL hK hr hid (min rs.length 6) 0 [] true h2 n2 (.nil .sl) B4 (by omega) rfl (fun r h => by cases h) ⟨fun _ r h => (by cases h), fun _ => rfl⟩ (.inl ⟨rfl, rfl, rfl⟩) (Nat.le_refl _) G.fr (by omega)
  have eK := eL (999999999 - min rs.length 6)
  rw [show 999999999 - min rs.length 6+min rs.length 6+1=999999999+1 by omega, show 28+2=30 from rfl] at eK
  simp only [Q0] at eK
  have G3 := G.up q5 q7 q8
  rw [←q1] at q4
  have L := q4.ls [] (fun q hq => by cases hq)
  have hmv:∀ κ, AJ mv κ=κ (.int .i64 ms.length) := fun κ => L.len (by omega) κ
  generalize hR:Al tab 31 ⟨.d0, .d0, .d4⟩ [.int .u32 id, lv] AN Z9=R0
  rw [call2_at, show B5 ⟨.d0, .d0, .d4⟩ tab=some x4 from rfl, x4_L, x4L] at hR
  simp (config := {maxSteps := 3000000}) (disch := omega) only [qa,g0,g1,g2,g3,g4,g5,g6,g7,g8,g9,Bt,Bp,Bo,BC,BE,By,BF,g17,Bx,Bv,w0,w1,w2,w3,w4,w5,w6,w7,w8,w9,Bn,Bm,Br,BG,Bz,BB,BA,BD,Bw,Bu,Mk,Nat.reduceAdd,Nat.reduceSub,Nat.reduceMul,Nat.reduceMod,Nat.reduceDiv,Q0,U,en1,e1,e2,e3,CI,CC,Ct,Cq,BO,BI] at hR
  rw [CH, ←Dh, eK] at hR
  by_cases hgood:0<ms.length∧ok=true
  · obtain ⟨hpos, rfl⟩ := hgood
    have hall := q3.1 rfl
    have hbl := bytesR_le ms (fun r h => (hall r h).1)
    obtain ⟨h4, n4, pc', cv', pl, e4, hpl, _, _, G4⟩ := app_ok (m := 18) (fl' := 18446744073709551615) G3 (.inl ⟨rfl, rfl⟩) hall hid (by omega) hpos L (by simp) (by omega) (by simp only [List.length_nil]; omega) (by omega) (by omega)
    rw [show 18+12=30 from rfl] at e4
    simp (config := {maxSteps := 3000000}) (disch := omega) only [qa,g0,g1,g2,g3,g4,g5,g6,g7,g8,g9,Bt,Bp,Bo,BC,BE,By,BF,g17,Bx,Bv,w0,w1,w2,w3,w4,w5,w6,w7,w8,w9,Bn,Bm,Br,BG,Bz,BB,BA,BD,Bw,Bu,Mk,Nat.reduceAdd,Nat.reduceSub,Nat.reduceMul,Nat.reduceMod,Nat.reduceDiv,Q0,U,e4,hmv,hpl,eq_self,CI,CC,Ct,Cq,BO,BI] at hR
    rw [←hR]; rfl
  · have hno:ms=[] ∨ ¬ ∀ r∈ms, RecMay r∧r.ten=id := by
      cases hm:ms with
      | nil => exact .inl rfl
      | cons r t =>
        refine .inr fun h => hgood ⟨by rw [hm, List.length_cons]; omega, q3.2 (by rw [hm]; exact h)⟩
    obtain ⟨h4, n4, e4, b4, b5, G4⟩ := app_bad (m := 18) G3 q2 hid (by omega) L hno (by simp) (by omega)
    rw [show 18+12=30 from rfl] at e4
    have e5 := gsize_ok (m := 29) (n := n4) G4.hs
    rw [show 29+1=30 from rfl, List.length_nil] at e5
    obtain ⟨h5, n5, v5, e6, L5, _⟩ := records_ok (m := 24) (rs := []) G4 (fun r h => by cases h) (fun r h => by cases h) (by decide) (by decide) (by omega) (by omega)
    rw [show 24+6=30 from rfl] at e6
    have hv:∀ κ, AJ v5 κ=κ (.int .i64 0) := fun κ => L5.len (by decide) κ
    by_cases hok:ok=true
    · subst hok
      have h0:ms.length=0 := by
        rcases Nat.eq_zero_or_pos ms.length with h | h
        · exact h
        · exact absurd ⟨h, rfl⟩ hgood
      rw [h0] at hmv
      simp (config := {maxSteps := 3000000}) (disch := omega) only [qa,g0,g1,g2,g3,g4,g5,g6,g7,g8,g9,Bt,Bp,Bo,BC,BE,By,BF,g17,Bx,Bv,w0,w1,w2,w3,w4,w5,w6,w7,w8,w9,Bn,Bm,Br,BG,Bz,BB,BA,BD,Bw,Bu,Mk,Nat.reduceAdd,Nat.reduceSub,Nat.reduceMul,Nat.reduceMod,Nat.reduceDiv,Q0,U,e4,e5,e6,hmv,hv,eq_self,CI,CC,Ct,Cq,BO,BI] at hR
      rw [←hR]; rfl
    · have hok:ok=false := by cases ok <;> simp_all
      subst hok
      simp (config := {maxSteps := 3000000}) (disch := omega) only [qa,g0,g1,g2,g3,g4,g5,g6,g7,g8,g9,Bt,Bp,Bo,BC,BE,By,BF,g17,Bx,Bv,w0,w1,w2,w3,w4,w5,w6,w7,w8,w9,Bn,Bm,Br,BG,Bz,BB,BA,BD,Bw,Bu,Mk,Nat.reduceAdd,Nat.reduceSub,Nat.reduceMul,Nat.reduceMod,Nat.reduceDiv,Q0,U,e4,e5,e6,hmv,hv,eq_self,CI,CC,Ct,Cq,BO,BI] at hR
      rw [←hR]; rfl
theorem told_k {k:IntKind} {z:Int} (h:(Lit.int k z).wf=true) (hk:k = .i64∨k = .u32∨k = .u64):∃ r, r<Mk k∧z=Go.Ev.dec k r := by
  have key:∀ (M H:Nat), Mk k=M->Hk k=H->(0≤z->z<H∨H=M)->(0≤z->z<M)->(z<0 → - (M:Int)+H≤z∧H<M)->H≤M->∃ r, r<Mk k∧z=Go.Ev.dec k r := by
    intro M H hM hH h1 h2 h3 hle
    rw [hM]
    rcases Int.lt_or_le z 0 with hn | hn
    · obtain ⟨h4, h5⟩ := h3 hn
      refine ⟨(z+M).toNat, by omega, ?_⟩
      rw [Cy (by rw [hH]; omega), hM]; omega
    · refine ⟨z.toNat, by have := h2 hn; omega, ?_⟩
      have h6:z.toNat<Hk k := by
        rw [hH]
        have := h2 hn
        rcases h1 hn with h | h
        · omega
        · omega
      rw [Aj h6]; omega
  rcases hk with rfl | rfl | rfl
  · have hb : -9223372036854775808≤z∧z<9223372036854775808 := by
      simp [Lit.wf, IntKind.min, IntKind.max, IntKind.signed, IntKind.bits] at h
      omega
    exact key 18446744073709551616 9223372036854775808 rfl rfl (by omega) (by omega) (by omega) (by omega)
  · have hb:0≤z∧z<4294967296 := by
      simp [Lit.wf, IntKind.min, IntKind.max, IntKind.signed, IntKind.bits] at h
      omega
    exact key 4294967296 4294967296 rfl rfl (by omega) (by omega) (by omega) (by omega)
  · have hb:0≤z∧z<18446744073709551616 := by
      simp [Lit.wf, IntKind.min, IntKind.max, IntKind.signed, IntKind.bits] at h
      omega
    exact key 18446744073709551616 18446744073709551616 rfl rfl (by omega) (by omega) (by omega) (by omega)
theorem one_cell {cs:List Value} {i:Nat} {v:Value} (h:(cs.drop i).take 1=[v]):cs[i]? = some v := by
  have := congrArg (fun l => l[0]?) h
  simpa [List.getElem?_take, List.getElem?_drop] using this
theorem open_rec {P:Program} {H:Type} {enc:TypeId×Value->H} {w:World} {base:Nat} {spare:Nat->Bool} {held:Bool} {fuel:Nat} {e:TypeId} {cs:List Value} {x:DataW H×List MemPlace} {f0 f1 f2 f3 f4 f5:Field}
    (he:P.underlying e=some (.struct #[f0, f1, f2, f3, f4, f5])) (o0:f0.offset=0) (o1:f1.offset=1) (o2:f2.offset=2) (o3:f3.offset=3) (o4:f4.offset=4) (o5:f5.offset=5)
    (t0:P.underlying f0.type=some (.int .i64)) (t1:P.underlying f1.type=some (.int .u32)) (t2:P.underlying f2.type=some (.int .u64)) (t3:P.underlying f3.type=some (.int .u64)) (t4:P.underlying f4.type=some (.int .u64)) (t5:P.underlying f5.type=some .string)
    (c0:P.cellsOf f0.type=1) (c1:P.cellsOf f1.type=1) (c2:P.cellsOf f2.type=1) (c3:P.cellsOf f3.type=1) (c4:P.cellsOf f4.type=1) (c5:P.cellsOf f5.type=1) (h:DataW.trod enc P w base spare held fuel e cs=some x) :
    ∃ r:Rec, RecIn r ∧ ∀ (j:Nat) (v:RV), (rvR r)[j]? = some v->∃ y, cs[j]? = some y ∧ ∀ ρ, H6 ρ v y := by
  obtain ⟨xs, n, _, _, hl, hlen, hf⟩ := DataW.trod_struct he h
  have hx:∀ i, i<6->∃ y, xs[i]? = some y := fun i hi => ⟨xs[i]'(by rw [hlen]; exact hi), List.getElem?_eq_getElem _⟩
  obtain ⟨y0, g0'⟩ := hx 0 (by omega)
  obtain ⟨y1, g1'⟩ := hx 1 (by omega)
  obtain ⟨y2, g2'⟩ := hx 2 (by omega)
  obtain ⟨y3, g3'⟩ := hx 3 (by omega)
  obtain ⟨y4, g4'⟩ := hx 4 (by omega)
  obtain ⟨y5, g5'⟩ := hx 5 (by omega)
  obtain ⟨z0, e0, _, wz0⟩ := DataW.trod_int t0 ((hf 0 f0 rfl).trans g0')
  obtain ⟨z1, e1, _, wz1⟩ := DataW.trod_int t1 ((hf 1 f1 rfl).trans g1')
  obtain ⟨z2, e2, _, wz2⟩ := DataW.trod_int t2 ((hf 2 f2 rfl).trans g2')
  obtain ⟨z3, e3, _, wz3⟩ := DataW.trod_int t3 ((hf 3 f3 rfl).trans g3')
  obtain ⟨z4, e4, _, wz4⟩ := DataW.trod_int t4 ((hf 4 f4 rfl).trans g4')
  obtain ⟨s, e5, _, ws⟩ := DataW.trod_string t5 ((hf 5 f5 rfl).trans g5')
  rw [o0, c0] at e0
  rw [o1, c1] at e1
  rw [o2, c2] at e2
  rw [o3, c3] at e3
  rw [o4, c4] at e4
  rw [o5, c5] at e5
  obtain ⟨r0, h0, d0⟩ := told_k wz0 (.inl rfl)
  obtain ⟨r1, h1, d1⟩ := told_k wz1 (.inr (.inl rfl))
  obtain ⟨r2, h2, d2⟩ := told_k wz2 (.inr (.inr rfl))
  obtain ⟨r3, h3, d3⟩ := told_k wz3 (.inr (.inr rfl))
  obtain ⟨r4, h4, d4⟩ := told_k wz4 (.inr (.inr rfl))
  have hmx:maxLen=9223372036854775807 := rfl
  have hsz:s.data.toList.length=s.size := by rw [Array.length_toList]; rfl
  refine ⟨⟨r0, r1, r2, r3, r4, s.data.toList⟩, ⟨⟨h0, h1, h2, h3, h4, by show 0≤2000; omega⟩, by show s.data.toList.length<_; omega⟩, fun j v hv => ?_⟩
  rcases j with _ | _ | _ | _ | _ | _ | j
  · obtain rfl:RV.i .i64 r0=v := Option.some.inj hv
    exact ⟨_, one_cell e0, fun ρ => ⟨h0, by rw [d0]⟩⟩
  · obtain rfl:RV.i .u32 r1=v := Option.some.inj hv
    exact ⟨_, one_cell e1, fun ρ => ⟨h1, by rw [d1]⟩⟩
  · obtain rfl:RV.i .u64 r2=v := Option.some.inj hv
    exact ⟨_, one_cell e2, fun ρ => ⟨h2, by rw [d2]⟩⟩
  · obtain rfl:RV.i .u64 r3=v := Option.some.inj hv
    exact ⟨_, one_cell e3, fun ρ => ⟨h3, by rw [d3]⟩⟩
  · obtain rfl:RV.i .u64 r4=v := Option.some.inj hv
    exact ⟨_, one_cell e4, fun ρ => ⟨h4, by rw [d4]⟩⟩
  · obtain rfl:RV.s s.data.toList.length (Ar s.data.toList)=v := Option.some.inj hv
    exact ⟨_, one_cell e5, fun ρ => ⟨s, rfl, hsz.symm, rfl⟩⟩
  · cases hv
theorem rvRs_app:∀ a b:List Rec, rvRs (a++b)=rvRs a++rvRs b
  | [], b => rfl
  | r::a, b => by rw [List.cons_append, rvRs, rvRs, rvRs_app a b, List.append_assoc]
theorem rvRs_len:∀ rs:List Rec, (rvRs rs).length=rs.length*6
  | [] => rfl
  | r::rs => by rw [rvRs, List.length_append, rvRs_len rs, List.length_cons]; show 6+_=_; omega
theorem open_rr {P:Program} {H:Type} {enc:TypeId×Value->H} {w:World} {base:Nat} {spare:Nat->Bool} {held:Bool} {fuel:Nat} {t e:TypeId} {cs:List Value} {x:DataW H×List MemPlace} {f0 f1 f2 f3 f4 f5:Field}
    (ht:P.underlying t=some (.slice e)) (ce:P.cellsOf e=6)
    (he:P.underlying e=some (.struct #[f0, f1, f2, f3, f4, f5])) (o0:f0.offset=0) (o1:f1.offset=1) (o2:f2.offset=2) (o3:f3.offset=3) (o4:f4.offset=4) (o5:f5.offset=5)
    (t0:P.underlying f0.type=some (.int .i64)) (t1:P.underlying f1.type=some (.int .u32)) (t2:P.underlying f2.type=some (.int .u64)) (t3:P.underlying f3.type=some (.int .u64)) (t4:P.underlying f4.type=some (.int .u64)) (t5:P.underlying f5.type=some .string)
    (c0:P.cellsOf f0.type=1) (c1:P.cellsOf f1.type=1) (c2:P.cellsOf f2.type=1) (c3:P.cellsOf f3.type=1) (c4:P.cellsOf f4.type=1) (c5:P.cellsOf f5.type=1) (h:DataW.trod enc P w base spare held fuel t cs=some x) :
    cs=[.slice none 0 0] ∨ ∃ a len cap, cs=[.slice (some a) len cap]∧len≤maxLen ∧ ∃ (rs:List Rec) (bl:List Nat), rs.length=len∧(∀ r∈rs, RecIn r) ∧
      ∀ ρ φ, LJ ρ w bl->Ap ρ φ (.oth (.rx (rvRs rs) len 6)) (.slice (some a) len cap) := by
  rcases Go.Deep.open_slice ht h with ⟨hc, _⟩ | ⟨a, len, cap, m, n, D, Pl, hc, _, hl, hm, hmm, _, hx⟩
  · exact .inl hc
  · have hlm:len≤m := by rw [hmm]; split <;> omega
    have all:∀ k, k≤len->∃ rs:List Rec, rs.length=k∧(∀ r∈rs, RecIn r) ∧ ∀ (j:Nat) (r:RV), (rvRs rs)[j]? = some r->∃ v, w.cell? (a.add j)=some v ∧ ∀ ρ, H6 ρ r v := by
      intro k
      induction k with
      | zero => exact fun _ => ⟨[], rfl, (fun o ho => by cases ho), fun j r h => by simp [rvRs] at h⟩
      | succ k ih =>
        intro hk
        obtain ⟨rs, h1, h2, h3⟩ := ih (by omega)
        obtain ⟨cs', g1, g2⟩ := hx k (by omega)
        rw [ce] at g1
        obtain ⟨_, g4, g5⟩ := World.cells?_some g1
        obtain ⟨r, hr, g6⟩ := open_rec he o0 o1 o2 o3 o4 o5 t0 t1 t2 t3 t4 t5 c0 c1 c2 c3 c4 c5 g2
        refine ⟨rs++[r], by rw [List.length_append, h1]; rfl, fun o ho => ?_, fun j v hj => ?_⟩
        · rcases List.mem_append.1 ho with ho | ho
          · exact h2 o ho
          · rw [List.mem_singleton.1 ho]; exact hr
        · rw [rvRs_app] at hj
          by_cases hjn:j<k*6
          · rw [List.getElem?_append_left (by rw [rvRs_len]; omega)] at hj
            exact h3 j v hj
          · rw [List.getElem?_append_right (by rw [rvRs_len]; omega), rvRs_len, h1, show rvRs [r]=rvR r from by rw [rvRs, rvRs, List.append_nil]] at hj
            obtain ⟨y, k1, k2⟩ := g6 _ v hj
            have hj6:j - k*6<6 := by
              rcases Nat.lt_or_ge (j - k*6) 6 with h | h
              · exact h
              · rw [List.getElem?_eq_none (show (rvR r).length≤_ from h)] at hj; cases hj
            have := g5 (j - k*6) hj6
            rw [Go.Addr.add_add, show k*6+(j - k*6)=j by omega, k1] at this
            exact ⟨y, this, k2⟩
    obtain ⟨rs, h1, h2, h3⟩ := all len (Nat.le_refl _)
    refine .inr ⟨a, len, cap, hc, by omega, rs, [a.block], h1, h2, fun ρ φ hg => ?_⟩
    simp only [Ap]
    refine ⟨a, cap, rfl, hl, by rw [rvRs_len, h1], fun hpos => ?_⟩
    obtain ⟨v0, hv0, _⟩ := h3 0 ((rvRs rs)[0]'(by rw [rvRs_len]; omega)) (List.getElem?_eq_getElem _)
    obtain ⟨b, o, c, e', fr, ea, hw, hco⟩ := QO (show w.cell? a=_ from hv0)
    refine ⟨b, o, c, e', fr, ea, hg b (by rw [ea]; simp) c e' fr hw, fun j r hj => ?_⟩
    obtain ⟨v, hv, hr⟩ := h3 j r hj
    rw [ea, Go.WideShapes.add_plain] at hv
    exact ⟨v, by simpa [World.cell?, hw] using hv, hr ρ⟩
end Go.Ev.YtdgefeadbcbglaaDoor
