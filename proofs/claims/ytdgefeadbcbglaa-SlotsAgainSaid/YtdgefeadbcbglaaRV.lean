/- What the functions do, as equations over their texts, 1. -/
import Derived.Test.YtdgefeadbcbglaaRK
import Derived.KernelRfl
namespace Go.Ev.Ytdgefeadbcbglaa
open Go Go.Ev
set_option linter.unusedVariables false
set_option linter.unusedSimpArgs false
theorem getnS_lt {x b:Nat} (hb:b<256):Jh x b<18446744073709551616 :=
  Nat.or_lt_two_pow (n := 64) (Nat.mod_lt _ (by decide)) (Nat.lt_trans hb (by decide))
theorem getnQ_lt:∀ (j d x:Nat), x<18446744073709551616->Ge j d x<18446744073709551616
  | 0, _, _, h => h
  | j+1, d, x, h => by
    show Ge j (sh d 1) (Jh x (lo d 1))<18446744073709551616
    exact getnQ_lt j _ _ (getnS_lt (Lw _))
theorem enc_lo1 (b:UInt8) (l:List UInt8):lo (CJ (b::l)) 1=b.toNat := by
  have e := IT (b::l) 0 1
  rw [show sh (CJ (b::l)) 0=CJ (b::l) by rw [GA, Nat.pow_zero, Nat.div_one]] at e
  rw [e]; rfl
theorem sh_one (b:UInt8) (l:List UInt8):sh (CJ (b::l)) 1=CJ l := by
  rw [GA, Nat.pow_one]
  show (b.toNat+256*CJ l) / 256=CJ l
  have := b.toNat_lt
  omega
theorem get_put (v:Nat):∀ (k x:Nat), x*256 ^ k+v % 256 ^ k<18446744073709551616->Ge k (CJ (putL v k)) x=x*256 ^ k+v % 256 ^ k
  | 0, x, _ => by show x=x*1+v % 1; omega
  | k+1, x, h => by
    show Ge k (sh (CJ (UInt8.ofNat ((v >>> (8*k)) % 256)::putL v k)) 1) (Jh x (lo (CJ (UInt8.ofNat ((v >>> (8*k)) % 256)::putL v k)) 1))=_
    have hb:((UInt8.ofNat ((v >>> (8*k)) % 256))).toNat=(v / 256 ^ k) % 256 := by
      show ((v >>> (8*k)) % 256) % 256=_
      rw [Nat.mod_mod, Nat.shiftRight_eq_div_pow, show (256:Nat)=2 ^ 8 from rfl, ←Nat.pow_mul]
    rw [enc_lo1, sh_one, hb]
    have hlt:(v / 256 ^ k) % 256<256 := Nat.mod_lt _ (by decide)
    have hm:v % 256 ^ (k+1)=256 ^ k*(v / 256 ^ k % 256)+v % 256 ^ k := by rw [Nat.pow_succ, Nat.mod_mul]; omega
    have hx:x*256 ^ (k+1)=256 ^ k*(x*256) := by rw [Nat.pow_succ, Nat.mul_comm (256 ^ k) 256, ←Nat.mul_assoc, Nat.mul_comm]
    generalize (v / 256 ^ k) % 256=b at *
    have h1:1≤256 ^ k := Nat.one_le_pow _ _ (by decide)
    have h2:x*256+b<18446744073709551616 := by
      rw [hm, hx] at h
      have:256 ^ k*(x*256+b)≤256 ^ k*(x*256)+(256 ^ k*b+v % 256 ^ k) := by rw [Nat.mul_add]; omega
      have h3:x*256+b≤256 ^ k*(x*256+b) := Nat.le_mul_of_pos_left _ h1
      omega
    have hs:Jh x b=x*256+b := by
      show ((Nat.shiftLeft x 8) % 18446744073709551616) ||| b=_
      have e1:Nat.shiftLeft x 8=x*256 := by show x <<< 8=_; rw [Nat.shiftLeft_eq]
      have e2:(x*256) % 18446744073709551616=x*256 := Nat.mod_eq_of_lt (Nat.lt_of_le_of_lt (Nat.le_add_right _ b) h2)
      rw [e1, e2]
      have := Nat.shiftLeft_add_eq_or_of_lt (i := 8) hlt x
      rw [Nat.shiftLeft_eq] at this
      exact this.symm
    rw [hs, get_put v k _ (by rw [Nat.add_mul, Nat.mul_comm (x*256), Nat.mul_comm b]; rw [hm, hx] at h; omega), hm, hx, Nat.add_mul, Nat.mul_comm (x*256), Nat.mul_comm b]
    omega
noncomputable def numL (l:List UInt8):Nat := Ge l.length (CJ l) 0
theorem numL_lt (l:List UInt8):numL l<18446744073709551616 := getnQ_lt _ _ _ (by decide)
noncomputable def rdLen (B:List UInt8):Nat := numL ((B.drop 8).take 4)
noncomputable def rdTurn (B:List UInt8):Nat := numL (B.take 8)
noncomputable def rdText (B:List UInt8):List UInt8 := (B.drop 16).take (rdLen B)
noncomputable def rdOK (B:List UInt8):Bool := decide (rdLen B≤B.length - 16)&&decide (crcM (crcM 0 (B.take 12)) (rdText B)=numL ((B.drop 12).take 4) % 4294967296)
theorem cvi_i64_u64 {a:Nat} (h:a<9223372036854775808) (κ:V->R):F5 .i64 (.int .u64 a) κ=κ (.int .i64 a) := by
  rw [BQ (k := .i64) (j := .u64) (show a<18446744073709551616 by omega), Nat.mod_eq_of_lt (by show a<18446744073709551616; omega)]
theorem cvi_u32_u64 {a:Nat} (h:a<18446744073709551616) (κ:V->R):F5 .u32 (.int .u64 a) κ=κ (.int .u32 (a % 4294967296)) := BQ (k := .u32) (j := .u64) h κ
theorem eql_u32 (a b:Nat) (κ:V->R):EX (.int .u32 a) (.int .u32 b) κ=κ (.bool (decide (a=b))) := BY .u32 a b κ
theorem read65 {m:Nat} {h:Heap} {n p:K4} {ex sp:Bool} {pr:Option K4} {B:List UInt8} (hp:Ag p h=some (.c (cb B) sp pr)) (hB:16≤B.length) (hB2:B.length≤10000) :
    ∃ tv v:V, CE tab (m+3) ⟨.d0, .d4, .d1⟩ [.sl p 0 B.length B.length ex 1] h n = .rv (.tup [tv, v, .bool (rdOK B)]) h n∧(rdOK B=true->tv = .int .u64 (rdTurn B)∧rdLen B+16≤B.length∧v = .sl p 16 (rdLen B) (B.length - 16) ex 1) := by
  have k1 := numL_lt ((B.drop 8).take 4)
  have k2 := numL_lt ((B.drop 12).take 4)
  have e1 := get_sl (m := m+1) (n := n) (p := p) (off := 8) (len := 4) (cap := B.length - 8) (ex := ex) hp (by omega) rfl (by omega)
  have hdL:rdLen B=numL ((B.drop 8).take 4) := rfl
  rw [show Ge ((B.drop 8).take 4).length (CJ ((B.drop 8).take 4)) 0=rdLen B from rfl, show m+1+1=m+2 from rfl] at e1
  rw [←hdL] at k1
  generalize hR:CE tab (m+3) ⟨.d0, .d4, .d1⟩ [.sl p 0 B.length B.length ex 1] h n=R0
  rw [call2_at, show DB ⟨.d0, .d4, .d1⟩ tab=some x65 from rfl, x65] at hR
  by_cases hle:rdLen B≤B.length - 16
  · have e2 := get_sl (m := m+1) (n := n) (p := p) (off := 0) (len := 8) (cap := B.length) (ex := ex) (l := B.take 8) hp (by omega) rfl (by omega)
    have e3 := sum_sl (m := m) (n := n) (p := p) (off := 0) (len := 12) (cap := B.length) (ex := ex) (l := B.take 12) hp (by omega) rfl (by omega)
    have e4 := more_sl (m := m+1) (n := n) (p := p) (off := 16) (len := rdLen B) (cap := B.length - 16) (ex := ex) (l := rdText B) (s := crcM 0 (B.take 12)) hp (by omega) rfl (by omega) (crcM_lt (by omega))
    have e5 := get_sl (m := m+1) (n := n) (p := p) (off := 12) (len := 4) (cap := B.length - 12) (ex := ex) hp (by omega) rfl (by omega)
    rw [show Ge (B.take 8).length (CJ (B.take 8)) 0=rdTurn B from rfl, show m+1+1=m+2 from rfl] at e2
    rw [show Ge ((B.drop 12).take 4).length (CJ ((B.drop 12).take 4)) 0=numL ((B.drop 12).take 4) from rfl, show m+1+1=m+2 from rfl] at e5
    rw [show m+1+1=m+2 from rfl] at e4
    have hok:rdOK B=decide (crcM (crcM 0 (B.take 12)) (rdText B)=numL ((B.drop 12).take 4) % 4294967296) := by rw [rdOK, decide_eq_true hle, Bool.true_and]
    simp (disch := omega) only [g0,g1,g2,g3,g4,g5,g6,g7,g8,g9,E1,DZ,DO,E0,DX,DM,DS,DW,DP,E4,w0,w1,w2,w3,w4,w5,w6,w7,w8,w9,E2,DT,DR,DY,DU,DN,DV,E3,DQ,E7,C5,CY,D6,Bq,BJ,Bs,CZ,CX,CS,D8,Cr,Cl,C7,BY,Cp,C4,C3,Cj,Cw,BP,C1,D5,Br,Cv,C6,Ch,Ce,Cd,B4,AN,AL,AM,AB,AF,As,AU,Ay,Bh,BF,CR,Cn,Bu,BA,Ct,AW,BC,AY,BI,Bb,B3,BV,Bl,Ci,Bw,Be,B7,B6,cond_true,cond_false,List.set_cons_zero,List.set_cons_succ,List.length_cons,List.length_nil,A6,Ak,Aa,Mk,Nat.reduceAdd,Nat.reduceSub,Nat.reduceMul,Nat.reduceMod,Nat.reduceDiv,decide_true,decide_false,Nat.zero_add,beq_self_eq_true,Bool.not_true,Bool.not_false,bne_self_eq_false,CO,BU,BX,BW,C8,BR,AO,AV,Nat.mod_eq_of_lt,decide_eq_true,decide_eq_false,Q0,U,D9,BZ,D7,Cy,Cq,AH,Aj,Al,AE,Av,AA,AD,Aw,Az,Ar,Cg,Bm,BH,Bj,AZ,BK,Bn,Bt,B1,BT,Cx,  Bp,CV,CW,Aq,Af,Ao,AS,Cf,CA,B8,Ac,A8,Ad,Ax,Ai,Am,Ae,AX,CP,Ba,Ab,Bv,BB,Bf,By,C9,CQ,BN,AR,Bd,Co,B9,Bc,List.nil_append,List.cons_append,List.take_zero,List.drop_zero,List.drop_succ_cons,List.take_succ_cons,List.drop_nil,List.append_nil,Bool.and_true,Bool.true_and,Bool.and_false,Bool.false_and,Bool.or_true,Bool.true_or,Bool.or_false,Bool.false_or,BQ,Cz,C0,Ck,D4,Cu, Cc,Bo,Cm,B5,CT,C2,Bk,Bz,BG,Nat.one_mul,Nat.mul_one,Bi,Bx,BE,AP,BO,BS,Cb,Ca,AT,Au,BD,AQ,not_true_eq_false,not_false_eq_true,en3,Qf,XB,e1,e2,e3,e4,e5,cvi_64,cvi_i64_u64,cvi_u32_u64,Nat.add_sub_cancel_left,decide_eq_false,eql_u32,Nat.zero_add] at hR
    rw [←hok] at hR
    exact ⟨_, _, hR.symm, fun _ => ⟨rfl, by omega, rfl⟩⟩
  · have hok:rdOK B=false := by rw [rdOK, decide_eq_false hle, Bool.false_and]
    simp (disch := omega) only [g0,g1,g2,g3,g4,g5,g6,g7,g8,g9,E1,DZ,DO,E0,DX,DM,DS,DW,DP,E4,w0,w1,w2,w3,w4,w5,w6,w7,w8,w9,E2,DT,DR,DY,DU,DN,DV,E3,DQ,E7,C5,CY,D6,Bq,BJ,Bs,CZ,CX,CS,D8,Cr,Cl,C7,BY,Cp,C4,C3,Cj,Cw,BP,C1,D5,Br,Cv,C6,Ch,Ce,Cd,B4,AN,AL,AM,AB,AF,As,AU,Ay,Bh,BF,CR,Cn,Bu,BA,Ct,AW,BC,AY,BI,Bb,B3,BV,Bl,Ci,Bw,Be,B7,B6,cond_true,cond_false,List.set_cons_zero,List.set_cons_succ,List.length_cons,List.length_nil,A6,Ak,Aa,Mk,Nat.reduceAdd,Nat.reduceSub,Nat.reduceMul,Nat.reduceMod,Nat.reduceDiv,decide_true,decide_false,Nat.zero_add,beq_self_eq_true,Bool.not_true,Bool.not_false,bne_self_eq_false,CO,BU,BX,BW,C8,BR,AO,AV,Nat.mod_eq_of_lt,decide_eq_true,decide_eq_false,Q0,U,D9,BZ,D7,Cy,Cq,AH,Aj,Al,AE,Av,AA,AD,Aw,Az,Ar,Cg,Bm,BH,Bj,AZ,BK,Bn,Bt,B1,BT,Cx,  Bp,CV,CW,Aq,Af,Ao,AS,Cf,CA,B8,Ac,A8,Ad,Ax,Ai,Am,Ae,AX,CP,Ba,Ab,Bv,BB,Bf,By,C9,CQ,BN,AR,Bd,Co,B9,Bc,List.nil_append,List.cons_append,List.take_zero,List.drop_zero,List.drop_succ_cons,List.take_succ_cons,List.drop_nil,List.append_nil,Bool.and_true,Bool.true_and,Bool.and_false,Bool.false_and,Bool.or_true,Bool.true_or,Bool.or_false,Bool.false_or,BQ,Cz,C0,Ck,D4,Cu, Cc,Bo,Cm,B5,CT,C2,Bk,Bz,BG,Nat.one_mul,Nat.mul_one,Bi,Bx,BE,AP,BO,BS,Cb,Ca,AT,Au,BD,AQ,not_true_eq_false,not_false_eq_true,en3,Qf,XB,e1,cvi_64,cvi_i64_u64] at hR
    rw [←hok] at hR
    exact ⟨_, _, hR.symm, fun h => by rw [hok] at h; cases h⟩
/-- A slot's bytes, ahead of anything, read as what was put. -/
theorem numL_put {v k:Nat} (hv:v<256 ^ k) (h64:256 ^ k≤18446744073709551616):numL (putL v k)=v := by
  show Ge (putL v k).length (CJ (putL v k)) 0=v
  have hm:v % 256 ^ k=v := Nat.mod_eq_of_lt hv
  rw [putL_len, get_put v k 0 (by rw [hm]; omega), hm]; omega
theorem slot_parts {turn:Nat} {l B:List UInt8} (hB:B.take (16+l.length)=slotL turn l) (hl:16+l.length≤B.length) :
    B.take 8=putL turn 8∧(B.drop 8).take 4=putL l.length 4∧B.take 12=headL turn l∧(B.drop 12).take 4=putL (crcM (crcM 0 (headL turn l)) l) 4∧(B.drop 16).take l.length=l := by
  have hs := slotL_len turn l
  have e:B=slotL turn l++B.drop (16+l.length) := by rw [←hB, List.take_append_drop]
  have p8 := putL_len turn 8
  have p4 := putL_len l.length 4
  have pc := putL_len (crcM (crcM 0 (headL turn l)) l) 4
  have h12 := headL_len turn l
  generalize B.drop (16+l.length)=R at e
  subst e
  unfold slotL
  refine ⟨?_, ?_, ?_, ?_, ?_⟩
  · rw [headL]; simp only [List.append_assoc]; rw [List.take_append_of_le_length (by omega), List.take_of_length_le (by omega)]
  · rw [headL]; simp only [List.append_assoc]; rw [List.drop_append_of_le_length (by omega), List.drop_of_length_le (by omega), List.nil_append, List.take_append_of_le_length (by omega), List.take_of_length_le (by omega)]
  · simp only [List.append_assoc]; rw [List.take_append_of_le_length (by omega), List.take_of_length_le (by omega)]
  · simp only [List.append_assoc]; rw [List.drop_append_of_le_length (by omega), List.drop_of_length_le (by omega), List.nil_append, List.take_append_of_le_length (by omega), List.take_of_length_le (by omega)]
  · rw [show headL turn l++putL (crcM (crcM 0 (headL turn l)) l) 4++l++R=(headL turn l++putL (crcM (crcM 0 (headL turn l)) l) 4)++(l++R) by simp only [List.append_assoc], List.drop_append_of_le_length (by rw [List.length_append]; omega), List.drop_of_length_le (by rw [List.length_append]; omega), List.nil_append, List.take_append_of_le_length (by omega), List.take_of_length_le (by omega)]
theorem slot_reads {turn:Nat} {l B:List UInt8} (ht:turn<18446744073709551616) (hl:l.length≤10000) (hB:B.take (16+l.length)=slotL turn l) (hlb:16+l.length≤B.length):rdOK B=true∧rdTurn B=turn∧rdText B=l∧rdLen B=l.length := by
  obtain ⟨a1, a2, a3, a4, a5⟩ := slot_parts hB hlb
  have kc := crcM_lt (s := crcM 0 (headL turn l)) (l := l) (crcM_lt (by omega))
  have h4:(256:Nat) ^ 4=4294967296 := by decide
  have h8:(256:Nat) ^ 8=18446744073709551616 := by decide
  have eL:rdLen B=l.length := by rw [rdLen, a2, numL_put (by rw [h4]; omega) (by rw [h4]; omega)]
  have eT:rdText B=l := by rw [rdText, eL, a5]
  refine ⟨?_, by rw [rdTurn, a1, numL_put (by rw [h8]; exact ht) (by rw [h8]; exact Nat.le_refl _)], eT, eL⟩
  rw [rdOK, eL, eT, a3, a4, numL_put (by rw [h4]; exact kc) (by rw [h4]; decide), Nat.mod_eq_of_lt kc, decide_eq_true (by omega), decide_eq_true rfl]; rfl
/-- Bytes of one's own somewhere else. -/
def At (h:Heap) (n:K4) (av:List K4) (v:V) (l:List UInt8):Prop := (v = .nil .sl∧l=[]) ∨ ∃ p ex, v = .sl p 0 l.length l.length ex 1∧Ag p h=some (.c (cb l) false none)∧p.toN<n.toN ∧ ∀ q∈av, p≠q
theorem At.frame {h h':Heap} {n n':K4} {av av':List K4} {v:V} {l:List UInt8} (H:At h n av v l) (hn:n.toN≤n'.toN) (e:∀ p:K4, p.toN<n.toN->(∀ q∈av, p≠q)->Ag p h'=Ag p h ∧ ∀ q∈av', p≠q):At h' n' av' v l := by
  rcases H with H | ⟨p, ex, h1, h2, h3, h4⟩
  · exact .inl H
  · exact .inr ⟨p, ex, h1, ((e p h3 h4).1).trans h2, by omega, (e p h3 h4).2⟩
theorem At.src {h:Heap} {n:K4} {av:List K4} {v:V} {l:List UInt8} (H:At h n av v l):FK v l h := by
  rcases H with H | ⟨p, ex, rfl, h2, _⟩
  · exact .inr (.inl H)
  · exact .inr (.inr ⟨p, 0, l.length, ex, l, false, none, rfl, h2, by omega, by rw [List.drop_zero, List.take_length]⟩)
/-- A clone of bytes of any kind. -/
def ClO (m:Nat) (h:Heap) (n:K4) (v:V) (l:List UInt8) (av:List K4):Prop := ∃ h' n' v', CE tab (m+1) ⟨.d0, .d3, .d7⟩ [v] h n = .rv v' h' n'∧n.toN≤n'.toN∧n'.toN≤n.toN+2∧At h' n' av v' l∧(∀ q:K4, q.toN<n.toN->Ag q h'=Ag q h)∧(Dg h n->Dg h' n')∧(v' = .nil .sl ∨ ∃ p a ex, v' = .sl p 0 a a ex 1)
theorem clone_by {m:Nat} {h:Heap} {n:K4} {v:V} {l:List UInt8} (hL:l.length≤1000000000) (hn:n.toN<63000) (av:List K4) (hav:∀ q∈av, q.toN<n.toN) (hy:∀ κ:Nat->Cs->R, JB 1 v (B0 n h (some (.c (.b 0 0) false none))) κ=κ l.length (cb l)) (hnn:∀ κ:V->R, Hf false (.rf .sl) v (.nil .sl) κ=κ (.bool false)):ClO m h n v l av := by
  have u1 := K4.up_toN (p := n) (by omega)
  obtain ⟨h', n', v', p', e1, b1, b2, o1, c1, c2, g1', g2', w1'⟩ := app_empty (l := l) (n := n) (h := B0 n h (some (.c (.b 0 0) false none))) (by omega) (by omega) (A6 _ _ _)
  refine ⟨h', n', v', ?_, by omega, b2, ?_, fun q hq => (g1' q (by omega)).trans (Af hq _ _), fun hf q hq => (g2' q hq).trans ((Ao (by omega) _ _).trans (hf q (by omega))), .inr ⟨p', _, _, w1'⟩⟩
  · rw [call2_at, show DB ⟨.d0, .d3, .d7⟩ tab=some x55 from rfl, x55]
    simp (disch := omega) only [g0,g1,g2,g3,g4,g5,g6,g7,g8,g9,E1,DZ,DO,E0,DX,DM,DS,DW,DP,E4,w0,w1,w2,w3,w4,w5,w6,w7,w8,w9,E2,DT,DR,DY,DU,DN,DV,E3,DQ,E7,C5,CY,D6,Bq,BJ,Bs,CZ,CX,CS,D8,Cr,Cl,C7,BY,Cp,C4,C3,Cj,Cw,BP,C1,D5,Br,Cv,C6,Ch,Ce,Cd,B4,AN,AL,AM,AB,AF,As,AU,Ay,Bh,BF,CR,Cn,Bu,BA,Ct,AW,BC,AY,BI,Bb,B3,BV,Bl,Ci,Bw,Be,B7,B6,cond_true,cond_false,List.set_cons_zero,List.set_cons_succ,List.length_cons,List.length_nil,A6,Ak,Aa,Mk,Nat.reduceAdd,Nat.reduceSub,Nat.reduceMul,Nat.reduceMod,Nat.reduceDiv,decide_true,decide_false,Nat.zero_add,beq_self_eq_true,Bool.not_true,Bool.not_false,bne_self_eq_false,CO,BU,BX,BW,C8,BR,AO,AV,Nat.mod_eq_of_lt,decide_eq_true,decide_eq_false,Q0,U,D9,BZ,D7,Cy,Cq,AH,Aj,Al,AE,Av,AA,AD,Aw,Az,Ar,Cg,Bm,BH,Bj,AZ,BK,Bn,Bt,B1,BT,Cx,  Bp,CV,CW,Aq,Af,Ao,AS,Cf,CA,B8,Ac,A8,Ad,Ax,Ai,Am,Ae,AX,CP,Ba,Ab,Bv,BB,Bf,By,C9,CQ,BN,AR,Bd,Co,B9,Bc,List.nil_append,List.cons_append,List.take_zero,List.drop_zero,List.drop_succ_cons,List.take_succ_cons,List.drop_nil,List.append_nil,Bool.and_true,Bool.true_and,Bool.and_false,Bool.false_and,Bool.or_true,Bool.true_or,Bool.or_false,Bool.false_or,BQ,Cz,C0,Ck,D4,Cu, Cc,Bo,Cm,B5,CT,C2,Bk,Bz,BG,Nat.one_mul,Nat.mul_one,Bi,Bx,BE,AP,BO,BS,Cb,Ca,AT,Au,BD,AQ,not_true_eq_false,not_false_eq_true,en3,q_appS,hnn,hy,e1]
  · rcases o1 with ⟨rfl, rfl⟩ | ⟨ex, rfl, h2⟩
    · exact .inl ⟨rfl, rfl⟩
    · exact .inr ⟨p', ex, rfl, h2, c2, fun q hq => (K4.ne_of_lt (by have := hav q hq; omega)).symm⟩
theorem clone_src {m:Nat} {h:Heap} {n:K4} {v:V} {l:List UInt8} (H:FK v l h) (hp:∀ p:K4, (∃ off cap ex, v = .sl p off l.length cap ex 1)->p.toN<n.toN) (hL:l.length≤1000000000) (hn:n.toN<63000) (av:List K4) (hav:∀ q∈av, q.toN<n.toN):ClO m h n v l av := by
  rcases H with rfl | ⟨rfl, rfl⟩ | ⟨p, off, cap, ex, L, sp, pr, rfl, h1, h2, h3⟩
  · exact clone_by hL hn av hav (fun κ => rfl) (fun κ => B6 false _ _ κ)
  · exact ⟨h, n, .nil .sl, clone_nil, by omega, by omega, .inl ⟨rfl, rfl⟩, fun q _ => rfl, fun h => h, .inl rfl⟩
  · exact clone_by hL hn av hav (fun κ => by rw [YM ((Af (hp p ⟨off, cap, ex, rfl⟩) _ _).trans h1) h2, h3]) (fun κ => B7 false _ _ _ _ _ _ κ)
theorem write_fail {m:Nat} {f:K4} {h:Heap} {n:K4} {room rd calls:Nat} {dv lw w nm ov v:V} (hc:calls<1000000) (hf:Ag f h=some (.c (.l (fsC room rd calls 0 dv lw w)) false none)) :
    CE tab (m+2) ⟨.d0, .d1, .d10⟩ [.ptr f 0, nm, ov, v] h n = .rv (.int .i64 3) (B0 f h (some (.c (.l (fsC room rd (calls+1) 18446744073709551615 dv lw w)) false none))) n := by
  rw [call2_at, show DB ⟨.d0, .d1, .d10⟩ tab=some x26 from rfl, x26, y26]
  simp (config := {maxSteps := 3000000}) (disch := omega) only [g0,g1,g2,g3,g4,g5,g6,g7,g8,g9,E1,DZ,DO,E0,DX,DM,DS,DW,DP,E4,w0,w1,w2,w3,w4,w5,w6,w7,w8,w9,E2,DT,DR,DY,DU,DN,DV,E3,DQ,E7,C5,CY,D6,Bq,BJ,Bs,CZ,CX,CS,D8,Cr,Cl,C7,BY,Cp,C4,C3,Cj,Cw,BP,C1,D5,Br,Cv,C6,Ch,Ce,Cd,B4,AN,AL,AM,AB,AF,As,AU,Ay,Bh,BF,CR,Cn,Bu,BA,Ct,AW,BC,AY,BI,Bb,B3,BV,Bl,Ci,Bw,Be,B7,B6,cond_true,cond_false,List.set_cons_zero,List.set_cons_succ,List.length_cons,List.length_nil,A6,Ak,Aa,Mk,Nat.reduceAdd,Nat.reduceSub,Nat.reduceMul,Nat.reduceMod,Nat.reduceDiv,decide_true,decide_false,Nat.zero_add,beq_self_eq_true,Bool.not_true,Bool.not_false,bne_self_eq_false,CO,BU,BX,BW,C8,BR,AO,AV,Nat.mod_eq_of_lt,decide_eq_true,decide_eq_false,Q0,U,D9,BZ,D7,Cy,Cq,AH,Aj,Al,AE,Av,AA,AD,Aw,Az,Ar,Cg,Bm,BH,Bj,AZ,BK,Bn,Bt,B1,BT,Cx,  Bp,CV,CW,Aq,Af,Ao,AS,Cf,CA,B8,Ac,A8,Ad,Ax,Ai,Am,Ae,AX,CP,Ba,Ab,Bv,BB,Bf,By,C9,CQ,BN,AR,Bd,Co,B9,Bc,List.nil_append,List.cons_append,List.take_zero,List.drop_zero,List.drop_succ_cons,List.take_succ_cons,List.drop_nil,List.append_nil,Bool.and_true,Bool.true_and,Bool.and_false,Bool.false_and,Bool.or_true,Bool.true_or,Bool.or_false,Bool.false_or,BQ,Cz,C0,Ck,D4,Cu, Cc,Bo,Cm,B5,CT,C2,Bk,Bz,BG,Nat.one_mul,Nat.mul_one,Bi,Bx,BE,AP,BO,BS,Cb,Ca,AT,Au,BD,AQ,not_true_eq_false,not_false_eq_true,en4]
  rw [begin_fail hf hc]
  simp (config := {maxSteps := 3000000}) (disch := omega) only [g0,g1,g2,g3,g4,g5,g6,g7,g8,g9,E1,DZ,DO,E0,DX,DM,DS,DW,DP,E4,w0,w1,w2,w3,w4,w5,w6,w7,w8,w9,E2,DT,DR,DY,DU,DN,DV,E3,DQ,E7,C5,CY,D6,Bq,BJ,Bs,CZ,CX,CS,D8,Cr,Cl,C7,BY,Cp,C4,C3,Cj,Cw,BP,C1,D5,Br,Cv,C6,Ch,Ce,Cd,B4,AN,AL,AM,AB,AF,As,AU,Ay,Bh,BF,CR,Cn,Bu,BA,Ct,AW,BC,AY,BI,Bb,B3,BV,Bl,Ci,Bw,Be,B7,B6,cond_true,cond_false,List.set_cons_zero,List.set_cons_succ,List.length_cons,List.length_nil,A6,Ak,Aa,Mk,Nat.reduceAdd,Nat.reduceSub,Nat.reduceMul,Nat.reduceMod,Nat.reduceDiv,decide_true,decide_false,Nat.zero_add,beq_self_eq_true,Bool.not_true,Bool.not_false,bne_self_eq_false,CO,BU,BX,BW,C8,BR,AO,AV,Nat.mod_eq_of_lt,decide_eq_true,decide_eq_false,Q0,U,D9,BZ,D7,Cy,Cq,AH,Aj,Al,AE,Av,AA,AD,Aw,Az,Ar,Cg,Bm,BH,Bj,AZ,BK,Bn,Bt,B1,BT,Cx,  Bp,CV,CW,Aq,Af,Ao,AS,Cf,CA,B8,Ac,A8,Ad,Ax,Ai,Am,Ae,AX,CP,Ba,Ab,Bv,BB,Bf,By,C9,CQ,BN,AR,Bd,Co,B9,Bc,List.nil_append,List.cons_append,List.take_zero,List.drop_zero,List.drop_succ_cons,List.take_succ_cons,List.drop_nil,List.append_nil,Bool.and_true,Bool.true_and,Bool.and_false,Bool.false_and,Bool.or_true,Bool.true_or,Bool.or_false,Bool.false_or,BQ,Cz,C0,Ck,D4,Cu, Cc,Bo,Cm,B5,CT,C2,Bk,Bz,BG,Nat.one_mul,Nat.mul_one,Bi,Bx,BE,AP,BO,BS,Cb,Ca,AT,Au,BD,AQ,not_true_eq_false,not_false_eq_true]
theorem sync_fail {m:Nat} {f:K4} {h:Heap} {n:K4} {room rd calls:Nat} {dv lw w nm:V} (hc:calls<1000000) (hf:Ag f h=some (.c (.l (fsC room rd calls 0 dv lw w)) false none)) :
    CE tab (m+2) ⟨.d0, .d1, .d11⟩ [.ptr f 0, nm] h n = .rv (.int .i64 3) (B0 f h (some (.c (.l (fsC room rd (calls+1) 18446744073709551615 dv lw w)) false none))) n := by
  rw [call2_at, show DB ⟨.d0, .d1, .d11⟩ tab=some x27 from rfl, x27]
  simp (config := {maxSteps := 3000000}) (disch := omega) only [g0,g1,g2,g3,g4,g5,g6,g7,g8,g9,E1,DZ,DO,E0,DX,DM,DS,DW,DP,E4,w0,w1,w2,w3,w4,w5,w6,w7,w8,w9,E2,DT,DR,DY,DU,DN,DV,E3,DQ,E7,C5,CY,D6,Bq,BJ,Bs,CZ,CX,CS,D8,Cr,Cl,C7,BY,Cp,C4,C3,Cj,Cw,BP,C1,D5,Br,Cv,C6,Ch,Ce,Cd,B4,AN,AL,AM,AB,AF,As,AU,Ay,Bh,BF,CR,Cn,Bu,BA,Ct,AW,BC,AY,BI,Bb,B3,BV,Bl,Ci,Bw,Be,B7,B6,cond_true,cond_false,List.set_cons_zero,List.set_cons_succ,List.length_cons,List.length_nil,A6,Ak,Aa,Mk,Nat.reduceAdd,Nat.reduceSub,Nat.reduceMul,Nat.reduceMod,Nat.reduceDiv,decide_true,decide_false,Nat.zero_add,beq_self_eq_true,Bool.not_true,Bool.not_false,bne_self_eq_false,CO,BU,BX,BW,C8,BR,AO,AV,Nat.mod_eq_of_lt,decide_eq_true,decide_eq_false,Q0,U,D9,BZ,D7,Cy,Cq,AH,Aj,Al,AE,Av,AA,AD,Aw,Az,Ar,Cg,Bm,BH,Bj,AZ,BK,Bn,Bt,B1,BT,Cx,  Bp,CV,CW,Aq,Af,Ao,AS,Cf,CA,B8,Ac,A8,Ad,Ax,Ai,Am,Ae,AX,CP,Ba,Ab,Bv,BB,Bf,By,C9,CQ,BN,AR,Bd,Co,B9,Bc,List.nil_append,List.cons_append,List.take_zero,List.drop_zero,List.drop_succ_cons,List.take_succ_cons,List.drop_nil,List.append_nil,Bool.and_true,Bool.true_and,Bool.and_false,Bool.false_and,Bool.or_true,Bool.true_or,Bool.or_false,Bool.false_or,BQ,Cz,C0,Ck,D4,Cu, Cc,Bo,Cm,B5,CT,C2,Bk,Bz,BG,Nat.one_mul,Nat.mul_one,Bi,Bx,BE,AP,BO,BS,Cb,Ca,AT,Au,BD,AQ,not_true_eq_false,not_false_eq_true,en1]
  rw [begin_fail hf hc]
  simp (config := {maxSteps := 3000000}) (disch := omega) only [g0,g1,g2,g3,g4,g5,g6,g7,g8,g9,E1,DZ,DO,E0,DX,DM,DS,DW,DP,E4,w0,w1,w2,w3,w4,w5,w6,w7,w8,w9,E2,DT,DR,DY,DU,DN,DV,E3,DQ,E7,C5,CY,D6,Bq,BJ,Bs,CZ,CX,CS,D8,Cr,Cl,C7,BY,Cp,C4,C3,Cj,Cw,BP,C1,D5,Br,Cv,C6,Ch,Ce,Cd,B4,AN,AL,AM,AB,AF,As,AU,Ay,Bh,BF,CR,Cn,Bu,BA,Ct,AW,BC,AY,BI,Bb,B3,BV,Bl,Ci,Bw,Be,B7,B6,cond_true,cond_false,List.set_cons_zero,List.set_cons_succ,List.length_cons,List.length_nil,A6,Ak,Aa,Mk,Nat.reduceAdd,Nat.reduceSub,Nat.reduceMul,Nat.reduceMod,Nat.reduceDiv,decide_true,decide_false,Nat.zero_add,beq_self_eq_true,Bool.not_true,Bool.not_false,bne_self_eq_false,CO,BU,BX,BW,C8,BR,AO,AV,Nat.mod_eq_of_lt,decide_eq_true,decide_eq_false,Q0,U,D9,BZ,D7,Cy,Cq,AH,Aj,Al,AE,Av,AA,AD,Aw,Az,Ar,Cg,Bm,BH,Bj,AZ,BK,Bn,Bt,B1,BT,Cx,  Bp,CV,CW,Aq,Af,Ao,AS,Cf,CA,B8,Ac,A8,Ad,Ax,Ai,Am,Ae,AX,CP,Ba,Ab,Bv,BB,Bf,By,C9,CQ,BN,AR,Bd,Co,B9,Bc,List.nil_append,List.cons_append,List.take_zero,List.drop_zero,List.drop_succ_cons,List.take_succ_cons,List.drop_nil,List.append_nil,Bool.and_true,Bool.true_and,Bool.and_false,Bool.false_and,Bool.or_true,Bool.true_or,Bool.or_false,Bool.false_or,BQ,Cz,C0,Ck,D4,Cu, Cc,Bo,Cm,B5,CT,C2,Bk,Bz,BG,Nat.one_mul,Nat.mul_one,Bi,Bx,BE,AP,BO,BS,Cb,Ca,AT,Au,BD,AQ,not_true_eq_false,not_false_eq_true]
theorem same_str (a c:Nat) (κ:R):E9 (.str a c) (.str a c) κ=κ := by
  show br (G2 a c a c) κ _=κ
  rw [Ar]; simp only [decide_true,and_self,Bool.and_self,AG]
/-- A slots file's record. -/
abbrev spC (f:K4) (tv:V) (turn cur nxt:Nat):List V := [.ptr f 0, .str 1 65, tv, .int .u64 turn, .int .i64 cur, .int .u64 nxt]
/-- A disk with one file, and a slots file on it. -/
structure SS (h:Heap) (n f d x dm pc lm sp:K4) (room rd calls fl b k:Nat) (bs ys:List UInt8) (cv sv tv:V) (cur turn nxt:Nat) (text:List UInt8):Prop where
  hf:Ag f h=some (.c (.l (fsC room rd calls fl (.map d) (.map lm) (.nil .sl))) false none)
  hd:Ag d h=some (.m [(.str 1 65, .ptr x 0)] [b] k)
  hb:b<k
  hl:Ag lm h=some (.m [(.str 1 65, .ptr x 0)] [b] k)
  hx:Ag x h=some (.c (.l [cv, sv, .map dm]) false none)
  hm:∃ es ds dk, Ag dm h=some (.m es ds dk)∧IK es
  own:Kx pc h cv bs
  oy:At h n [f, d, x, dm, pc, lm, sp] sv ys
  hs:Ag sp h=some (.c (.l (spC f tv turn cur nxt)) false none)
  ot:At h n [f, d, x, dm, pc, lm, sp] tv text
  fr:Dg h n
  nd:[f, d, x, dm, pc, lm, sp].Pairwise (· ≠ ·)
  lt:∀ q∈[f, d, x, dm, pc, lm, sp], q.toN<n.toN
theorem save_ok {m:Nat} {h:Heap} {n f d x dm pc lm sp:K4} {room rd calls fl fl1 fl2 b k cur turn nxt:Nat} {bs ys text l:List UInt8} {cv sv tv v:V} (D:SS h n f d x dm pc lm sp room rd calls fl b k bs ys cv sv tv cur turn nxt text)
    (b1:Bg fl fl1) (b2:Bg fl1 fl2) (hv:FK v l h) (hvp:∀ p:K4, (∃ off cap ex, v = .sl p off l.length cap ex 1)->p.toN<n.toN ∧ ∀ q∈[f, d, x, dm, pc, lm, sp], p≠q) (hl:l.length≤4080) (hnx:nxt<1000000) (hcur:cur≤1) (hbs:bs.length=8192)
    (hr1:8192≤room) (hr2:room≤4194304) (hc:calls<900000) (hn:n.toN<56000) :
    ∃ h' n' dm' sv' tv', CE tab (m+12) ⟨.d0, .d2, .d1⟩ [.ptr sp 0, v] h n = .rv (.int .i64 0) h' n'∧n.toN≤n'.toN∧n'.toN≤n.toN+80∧(∀ q:K4, q.toN<n.toN->(∀ r∈[f, d, x, dm, pc, lm, sp], q≠r)->Ag q h'=Ag q h) ∧
      SS h' n' f d x dm' pc lm sp room rd (calls+2) fl2 b k (bs.take ((1 - cur)*4096)++(slotL (nxt+1) l++bs.drop ((1 - cur)*4096+(slotL (nxt+1) l).length))) (bs.take ((1 - cur)*4096)++(slotL (nxt+1) l++bs.drop ((1 - cur)*4096+(slotL (nxt+1) l).length))) cv sv' tv' (1 - cur) (nxt+1) (nxt+1) l∧Ag dm' h'=some (.m [] [] 0) := by
  have ⟨lf, ld, lx, lm', lp, ll, ls⟩:f.toN<n.toN∧d.toN<n.toN∧x.toN<n.toN∧dm.toN<n.toN∧pc.toN<n.toN∧lm.toN<n.toN∧sp.toN<n.toN := ⟨D.lt f (by simp), D.lt d (by simp), D.lt x (by simp), D.lt dm (by simp), D.lt pc (by simp), D.lt lm (by simp), D.lt sp (by simp)⟩
  have nd := D.nd
  simp only [List.pairwise_cons,List.mem_cons,List.not_mem_nil,or_false,forall_eq_or_imp,forall_eq,List.Pairwise.nil,and_true,false_implies,implies_true] at nd
  obtain ⟨⟨nfd, nfx, nfm, nfp, nfl, nfs⟩, ⟨ndx, ndm, ndp, ndl, nds⟩, ⟨nxm, nxp, nxl, nxs⟩, ⟨nmp, nml, nms⟩, ⟨npl, nps⟩, nls⟩ := nd
  obtain ⟨es, ds, dk, hm, ik⟩ := D.hm
  -- the counter
  generalize hA:B0 sp h (some (.c (.l (spC f tv turn cur (nxt+1))) false none))=A
  have aS:Ag sp A=some (.c (.l (spC f tv turn cur (nxt+1))) false none) := by rw [←hA, A6]
  have aO:∀ q:K4, q≠sp->Ag q A=Ag q h := fun q hq => by rw [←hA]; exact A7 _ _ (Ne.symm hq)
  have aF:Dg A n := fun q hq => (aO q (K4.ne_of_lt (by omega)).symm).trans (D.fr q hq)
  have hvA:FK v l A := hv.frame fun p hp => aO p ((hvp p hp).2 sp (by simp))
  -- the slot's bytes
  obtain ⟨c1, h1, n1, e1, o1, a1, a2, f1, r1⟩ := slot_ok (m := m+8) (turn := nxt+1) (n := n) (by omega) hvA (fun p hp => (hvp p hp).1) (by omega) (by omega)
  have hsl:(slotL (nxt+1) l).length=16+l.length := slotL_len _ _
  have hc1:∀ p:K4, (∃ off cap ex, c1 = .sl p off (slotL (nxt+1) l).length cap ex 1)->n.toN≤p.toN∧p.toN<n1.toN := by
    rintro p ⟨off, cap, ex, e⟩
    rcases o1 with ⟨h, _⟩ | ⟨p', ex', pr, h, _, q1, q2, _⟩
    · rw [h] at e; cases e
    · rw [h] at e; cases e; exact ⟨q1, q2⟩
  -- it is written
  have W := write_in (m := m) (n := n1) (off := (1 - cur)*4096) b1 (by omega) ((f1 f lf).trans ((aO f nfs).trans D.hf)) ((f1 d ld).trans ((aO d nds).trans D.hd)) D.hb ((f1 x lx).trans ((aO x nxs).trans D.hx)) ((f1 dm lm').trans ((aO dm nms).trans hm)) ik
    (D.own.frame ((f1 pc lp).trans (aO pc nps))) o1.src hr2 (by omega) (by rw [hsl, hbs]; rcases (by omega:cur=0∨cur=1) with rfl | rfl <;> omega) (by omega) (by omega) nfd.symm (by omega) nfx (by omega) nxm.symm nfm (by omega) nfp.symm nxp.symm nmp.symm (by omega)
    (fun p hp => by obtain ⟨q1, q2⟩ := hc1 p hp; exact ⟨q2, (K4.ne_of_lt (by omega)).symm, (K4.ne_of_lt (by omega)).symm, (K4.ne_of_lt (by omega)).symm, (K4.ne_of_lt (by omega)).symm⟩)
  obtain ⟨h2, n2, e2, a3, a4, r2, f2, y2, m2, o2⟩ := W
  have x2 := (f2 x (by omega) nfx.symm nxm nxp).trans ((f1 x lx).trans ((aO x nxs).trans D.hx))
  have d2 := (f2 d (by omega) nfd.symm ndm ndp).trans ((f1 d ld).trans ((aO d nds).trans D.hd))
  -- and synced
  obtain ⟨h3, n3, dm', sv', ps', e3, a5, a6, r3, f3, y3, x3, c3, c3', m3, ow3, q3, q3'⟩ := sync_ok (m := m+8) (n := n2) b2 (by omega) y2 d2 x2 o2 (by rw [Mt (by rw [hsl, hbs]; rcases (by omega:cur=0∨cur=1) with rfl | rfl <;> omega), hbs]; omega) (by omega) (by omega) nfd.symm (by omega) nfx (by omega) nfp.symm nxp.symm (by omega)
  have k3:∀ q:K4, q.toN<n.toN->q≠sp->q≠f->q≠dm->q≠pc->q≠x->Ag q h3=Ag q h := fun q h1 h2 h3 h4 h5 h6 => by
    rw [f3 q (by omega) h3 h6, f2 q (by omega) h3 h4 h5, f1 q h1, aO q h2]
  -- the text's clone
  have hv3:FK v l h3 := hv.frame fun p hp => by
    obtain ⟨q1, q2⟩ := hvp p hp
    exact k3 p q1 (q2 sp (by simp)) (q2 f (by simp)) (q2 dm (by simp)) (q2 pc (by simp)) (q2 x (by simp))
  obtain ⟨h4, n4, tv', e4, a7, a8, t4, f4, r4, w4'⟩ := clone_src (m := m+10) (n := n3) hv3 (fun p hp => by have := (hvp p hp).1; omega) (by omega) (by omega) [f, d, x, dm', pc, lm, sp] (fun q hq => by
    simp only [List.mem_cons,List.not_mem_nil,or_false] at hq
    rcases hq with rfl | rfl | rfl | rfl | rfl | rfl | rfl <;> omega)
  have s3:Ag sp h3=some (.c (.l (spC f tv turn cur (nxt+1))) false none) := by rw [f3 sp (by omega) nfs.symm nxs.symm, f2 sp (by omega) nfs.symm nms.symm nps.symm, f1 sp ls, aS]
  have s4 := (f4 sp (by omega)).trans s3
  have s2:Ag sp h2=some (.c (.l (spC f tv turn cur (nxt+1))) false none) := by rw [f2 sp (by omega) nfs.symm nms.symm nps.symm, f1 sp ls, aS]
  have s1 := (f1 sp ls).trans aS
  have el := hv.len (by omega)
  have hmul:((1 - cur)*4096) % 18446744073709551616=(1 - cur)*4096 := Nat.mod_eq_of_lt (by omega)
  generalize hR:CE tab (m+12) ⟨.d0, .d2, .d1⟩ [.ptr sp 0, v] h n=R0
  rw [call2_at, show DB ⟨.d0, .d2, .d1⟩ tab=some x33 from rfl, x33] at hR
  simp (config := {maxSteps := 3000000}) (disch := omega) only [g0,g1,g2,g3,g4,g5,g6,g7,g8,g9,E1,DZ,DO,E0,DX,DM,DS,DW,DP,E4,w0,w1,w2,w3,w4,w5,w6,w7,w8,w9,E2,DT,DR,DY,DU,DN,DV,E3,DQ,E7,C5,CY,D6,Bq,BJ,Bs,CZ,CX,CS,D8,Cr,Cl,C7,BY,Cp,C4,C3,Cj,Cw,BP,C1,D5,Br,Cv,C6,Ch,Ce,Cd,B4,AN,AL,AM,AB,AF,As,AU,Ay,Bh,BF,CR,Cn,Bu,BA,Ct,AW,BC,AY,BI,Bb,B3,BV,Bl,Ci,Bw,Be,B7,B6,cond_true,cond_false,List.set_cons_zero,List.set_cons_succ,List.length_cons,List.length_nil,A6,Ak,Aa,Mk,Nat.reduceAdd,Nat.reduceSub,Nat.reduceMul,Nat.reduceMod,Nat.reduceDiv,decide_true,decide_false,Nat.zero_add,beq_self_eq_true,Bool.not_true,Bool.not_false,bne_self_eq_false,CO,BU,BX,BW,C8,BR,AO,AV,Nat.mod_eq_of_lt,decide_eq_true,decide_eq_false,Q0,U,D9,BZ,D7,Cy,Cq,AH,Aj,Al,AE,Av,AA,AD,Aw,Az,Ar,Cg,Bm,BH,Bj,AZ,BK,Bn,Bt,B1,BT,Cx,  Bp,CV,CW,Aq,Af,Ao,AS,Cf,CA,B8,Ac,A8,Ad,Ax,Ai,Am,Ae,AX,CP,Ba,Ab,Bv,BB,Bf,By,C9,CQ,BN,AR,Bd,Co,B9,Bc,List.nil_append,List.cons_append,List.take_zero,List.drop_zero,List.drop_succ_cons,List.take_succ_cons,List.drop_nil,List.append_nil,Bool.and_true,Bool.true_and,Bool.and_false,Bool.false_and,Bool.or_true,Bool.true_or,Bool.or_false,Bool.false_or,BQ,Cz,C0,Ck,D4,Cu, Cc,Bo,Cm,B5,CT,C2,Bk,Bz,BG,Nat.one_mul,Nat.mul_one,Bi,Bx,BE,AP,BO,BS,Cb,Ca,AT,Au,BD,AQ,not_true_eq_false,not_false_eq_true,en1,el,D.hs,hA,hmul] at hR
  have sT:∀ (p:K4) (off:Nat) (h:Heap) (κ:Heap->R), Ea (.ptr p off) tv' h κ=UP (Ag p h) h p off tv' κ := by
    rcases w4' with rfl | ⟨_, _, _, rfl⟩
    · exact fun p off h κ => B3 _ _ _ _ _
    · exact fun p off h κ => BV _ _ _ _ _ _ _ _ _ _
  rw [show m+8+3=m+11 from rfl] at e1 e3
  rw [show m+10+1=m+11 from rfl] at e4
  simp (config := {maxSteps := 3000000}) (disch := omega) only [g0,g1,g2,g3,g4,g5,g6,g7,g8,g9,E1,DZ,DO,E0,DX,DM,DS,DW,DP,E4,w0,w1,w2,w3,w4,w5,w6,w7,w8,w9,E2,DT,DR,DY,DU,DN,DV,E3,DQ,E7,C5,CY,D6,Bq,BJ,Bs,CZ,CX,CS,D8,Cr,Cl,C7,BY,Cp,C4,C3,Cj,Cw,BP,C1,D5,Br,Cv,C6,Ch,Ce,Cd,B4,AN,AL,AM,AB,AF,As,AU,Ay,Bh,BF,CR,Cn,Bu,BA,Ct,AW,BC,AY,BI,Bb,B3,BV,Bl,Ci,Bw,Be,B7,B6,cond_true,cond_false,List.set_cons_zero,List.set_cons_succ,List.length_cons,List.length_nil,A6,Ak,Aa,Mk,Nat.reduceAdd,Nat.reduceSub,Nat.reduceMul,Nat.reduceMod,Nat.reduceDiv,decide_true,decide_false,Nat.zero_add,beq_self_eq_true,Bool.not_true,Bool.not_false,bne_self_eq_false,CO,BU,BX,BW,C8,BR,AO,AV,Nat.mod_eq_of_lt,decide_eq_true,decide_eq_false,Q0,U,D9,BZ,D7,Cy,Cq,AH,Aj,Al,AE,Av,AA,AD,Aw,Az,Ar,Cg,Bm,BH,Bj,AZ,BK,Bn,Bt,B1,BT,Cx,  Bp,CV,CW,Aq,Af,Ao,AS,Cf,CA,B8,Ac,A8,Ad,Ax,Ai,Am,Ae,AX,CP,Ba,Ab,Bv,BB,Bf,By,C9,CQ,BN,AR,Bd,Co,B9,Bc,List.nil_append,List.cons_append,List.take_zero,List.drop_zero,List.drop_succ_cons,List.take_succ_cons,List.drop_nil,List.append_nil,Bool.and_true,Bool.true_and,Bool.and_false,Bool.false_and,Bool.or_true,Bool.true_or,Bool.or_false,Bool.false_or,BQ,Cz,C0,Ck,D4,Cu, Cc,Bo,Cm,B5,CT,C2,Bk,Bz,BG,Nat.one_mul,Nat.mul_one,Bi,Bx,BE,AP,BO,BS,Cb,Ca,AT,Au,BD,AQ,not_true_eq_false,not_false_eq_true,aS,s1,s2,s3,s4,e1,e2,e3,e4,hmul,Se,same_str,LP,sT] at hR
  subst hR
  have hps:sv' = .nil .sl∨n2.toN≤ps'.toN∧ps'.toN<n3.toN := q3'.2
  have ne7:∀ q:K4, (∀ r∈[f, d, x, dm, pc, lm, sp], q≠r)->q≠f∧q≠x∧q≠dm∧q≠pc∧q≠sp := fun q hq => ⟨hq f (by simp), hq x (by simp), hq dm (by simp), hq pc (by simp), hq sp (by simp)⟩
  have lo:∀ q:K4, n2.toN≤q.toN->∀ r∈[f, d, x, pc, lm, sp], q≠r := fun q hq r hr => by
    simp only [List.mem_cons,List.not_mem_nil,or_false] at hr
    rcases hr with rfl | rfl | rfl | rfl | rfl | rfl <;> exact (K4.ne_of_lt (by omega)).symm
  refine ⟨_, n4, dm', sv', tv', rfl, by omega, by omega, fun q hq hr => ?_, ?_, by rw [A7 _ _ (lo dm' c3 sp (by simp)).symm, f4 dm' (by omega)]; exact m3⟩
  · obtain ⟨q1, q2, q3, q4, q5⟩ := ne7 q hr
    rw [A7 _ _ (Ne.symm q5), f4 q (by omega), k3 q hq q5 q1 q3 q4 q2]
  · refine ⟨?_, ?_, D.hb, ?_, ?_, ⟨[], [], 0, ?_, IK.nil⟩, ?_, ?_, A6 _ _ _, ?_, ?_, ?_, ?_⟩
    · rw [A7 _ _ nfs.symm, f4 f (by omega)]; exact y3
    · rw [A7 _ _ nds.symm, f4 d (by omega), f3 d (by omega) nfd.symm ndx]; exact d2
    · rw [A7 _ _ nls.symm, f4 lm (by omega), k3 lm ll nls nfl.symm nml.symm npl.symm nxl.symm]; exact D.hl
    · rw [A7 _ _ nxs.symm, f4 x (by omega)]; exact x3
    · rw [A7 _ _ (lo dm' c3 sp (by simp)).symm, f4 dm' (by omega)]; exact m3
    · exact o2.frame (by rw [A7 _ _ nps.symm, f4 pc (by omega), f3 pc (by omega) nfp.symm nxp.symm])
    · rcases hps with rfl | ⟨q1, q2⟩
      · rcases ow3 with ow3 | ⟨ex, e, _⟩
        · exact .inl ow3
        · cases e
      · rcases ow3 with ow3 | ⟨ex, e, g⟩
        · exact .inl ow3
        · refine .inr ⟨ps', ex, e, ?_, by omega, fun r hr => ?_⟩
          · rw [A7 _ _ (lo ps' q1 sp (by simp)).symm, f4 ps' (by omega)]; exact g
          · simp only [List.mem_cons,List.not_mem_nil,or_false] at hr
            rcases hr with rfl | rfl | rfl | rfl | rfl | rfl | rfl
            · exact lo ps' q1 _ (by simp)
            · exact lo ps' q1 _ (by simp)
            · exact lo ps' q1 _ (by simp)
            · exact q3'.1
            · exact lo ps' q1 _ (by simp)
            · exact lo ps' q1 _ (by simp)
            · exact lo ps' q1 _ (by simp)
    · exact t4.frame (Nat.le_refl _) fun p hp hr => ⟨A7 _ _ (hr sp (by simp)).symm, hr⟩
    · intro q hq
      rw [Ao (by omega)]
      exact r4 (r3 (r2 (r1 aF))) q hq
    · simp only [List.pairwise_cons,List.mem_cons,List.not_mem_nil,or_false,forall_eq_or_imp,forall_eq,List.Pairwise.nil,and_true,false_implies,implies_true]
      exact ⟨⟨nfd, nfx, (lo dm' c3 f (by simp)).symm, nfp, nfl, nfs⟩, ⟨ndx, (lo dm' c3 d (by simp)).symm, ndp, ndl, nds⟩, ⟨(lo dm' c3 x (by simp)).symm, nxp, nxl, nxs⟩, ⟨lo dm' c3 pc (by simp), lo dm' c3 lm (by simp), lo dm' c3 sp (by simp)⟩, ⟨npl, nps⟩, nls⟩
    · intro q hq
      simp only [List.mem_cons,List.not_mem_nil,or_false] at hq
      rcases hq with rfl | rfl | rfl | rfl | rfl | rfl | rfl <;> omega
theorem q_tf:(true == false)=false := id rfl
theorem q_ff:(false == false)=true := id rfl
theorem q_gdU (g:Bool) (h:Heap) (n:K4) (F:KV->R) (κ:KV):F8 g Ec h n F κ=κ Ec h n := id rfl
theorem turn_ok {m:Nat} {h:Heap} {n f sp:K4} {tv:V} {turn cur nxt:Nat} (hs:Ag sp h=some (.c (.l (spC f tv turn cur nxt)) false none)) :
    CE tab (m+1) ⟨.d0, .d2, .d4⟩ [.ptr sp 0] h n = .rv (.int .u64 turn) h n := by
  rw [call2_at, show DB ⟨.d0, .d2, .d4⟩ tab=some x36 from rfl, x36]
  simp (disch := omega) only [g0,g1,g2,g3,g4,g5,g6,g7,g8,g9,E1,DZ,DO,E0,DX,DM,DS,DW,DP,E4,w0,w1,w2,w3,w4,w5,w6,w7,w8,w9,E2,DT,DR,DY,DU,DN,DV,E3,DQ,E7,C5,CY,D6,Bq,BJ,Bs,CZ,CX,CS,D8,Cr,Cl,C7,BY,Cp,C4,C3,Cj,Cw,BP,C1,D5,Br,Cv,C6,Ch,Ce,Cd,B4,AN,AL,AM,AB,AF,As,AU,Ay,Bh,BF,CR,Cn,Bu,BA,Ct,AW,BC,AY,BI,Bb,B3,BV,Bl,Ci,Bw,Be,B7,B6,cond_true,cond_false,List.set_cons_zero,List.set_cons_succ,List.length_cons,List.length_nil,A6,Ak,Aa,Mk,Nat.reduceAdd,Nat.reduceSub,Nat.reduceMul,Nat.reduceMod,Nat.reduceDiv,decide_true,decide_false,Nat.zero_add,beq_self_eq_true,Bool.not_true,Bool.not_false,bne_self_eq_false,CO,BU,BX,BW,C8,BR,AO,AV,Nat.mod_eq_of_lt,decide_eq_true,decide_eq_false,Q0,U,D9,BZ,D7,Cy,Cq,AH,Aj,Al,AE,Av,AA,AD,Aw,Az,Ar,Cg,Bm,BH,Bj,AZ,BK,Bn,Bt,B1,BT,Cx,  Bp,CV,CW,Aq,Af,Ao,AS,Cf,CA,B8,Ac,A8,Ad,Ax,Ai,Am,Ae,AX,CP,Ba,Ab,Bv,BB,Bf,By,C9,CQ,BN,AR,Bd,Co,B9,Bc,List.nil_append,List.cons_append,List.take_zero,List.drop_zero,List.drop_succ_cons,List.take_succ_cons,List.drop_nil,List.append_nil,Bool.and_true,Bool.true_and,Bool.and_false,Bool.false_and,Bool.or_true,Bool.true_or,Bool.or_false,Bool.false_or,BQ,Cz,C0,Ck,D4,Cu, Cc,Bo,Cm,B5,CT,C2,Bk,Bz,BG,Nat.one_mul,Nat.mul_one,Bi,Bx,BE,AP,BO,BS,Cb,Ca,AT,Au,BD,AQ,not_true_eq_false,not_false_eq_true,en3,hs]
theorem text_ok {m:Nat} {h:Heap} {n f sp:K4} {tv:V} {turn cur nxt:Nat} {text:List UInt8} {av:List K4} (hs:Ag sp h=some (.c (.l (spC f tv turn cur nxt)) false none)) (ht:At h n av tv text) (hl:text.length≤10000) (hn:n.toN<60000) :
    ∃ h' n' v', CE tab (m+2) ⟨.d0, .d2, .d3⟩ [.ptr sp 0] h n = .rv v' h' n'∧n.toN≤n'.toN∧n'.toN≤n.toN+2∧(∀ κ, Hj v' h' κ=κ (sb text))∧(∀ q:K4, q.toN<n.toN->Ag q h'=Ag q h)∧(Dg h n->Dg h' n') := by
  obtain ⟨h', n', v', e, b1, b2, a, f1, r1, w1'⟩ := clone_src (m := m) (n := n) ht.src (fun p hp => by
    obtain ⟨off, cap, ex, e⟩ := hp
    rcases ht with ⟨rfl, _⟩ | ⟨p', ex', rfl, _, q, _⟩
    · cases e
    · cases e; exact q) (by omega) (by omega) [] (fun q hq => by cases hq)
  refine ⟨h', n', v', ?_, b1, b2, fun κ => ?_, f1, r1⟩
  · rw [call2_at, show DB ⟨.d0, .d2, .d3⟩ tab=some x35 from rfl, x35]
    simp (disch := omega) only [g0,g1,g2,g3,g4,g5,g6,g7,g8,g9,E1,DZ,DO,E0,DX,DM,DS,DW,DP,E4,w0,w1,w2,w3,w4,w5,w6,w7,w8,w9,E2,DT,DR,DY,DU,DN,DV,E3,DQ,E7,C5,CY,D6,Bq,BJ,Bs,CZ,CX,CS,D8,Cr,Cl,C7,BY,Cp,C4,C3,Cj,Cw,BP,C1,D5,Br,Cv,C6,Ch,Ce,Cd,B4,AN,AL,AM,AB,AF,As,AU,Ay,Bh,BF,CR,Cn,Bu,BA,Ct,AW,BC,AY,BI,Bb,B3,BV,Bl,Ci,Bw,Be,B7,B6,cond_true,cond_false,List.set_cons_zero,List.set_cons_succ,List.length_cons,List.length_nil,A6,Ak,Aa,Mk,Nat.reduceAdd,Nat.reduceSub,Nat.reduceMul,Nat.reduceMod,Nat.reduceDiv,decide_true,decide_false,Nat.zero_add,beq_self_eq_true,Bool.not_true,Bool.not_false,bne_self_eq_false,CO,BU,BX,BW,C8,BR,AO,AV,Nat.mod_eq_of_lt,decide_eq_true,decide_eq_false,Q0,U,D9,BZ,D7,Cy,Cq,AH,Aj,Al,AE,Av,AA,AD,Aw,Az,Ar,Cg,Bm,BH,Bj,AZ,BK,Bn,Bt,B1,BT,Cx,  Bp,CV,CW,Aq,Af,Ao,AS,Cf,CA,B8,Ac,A8,Ad,Ax,Ai,Am,Ae,AX,CP,Ba,Ab,Bv,BB,Bf,By,C9,CQ,BN,AR,Bd,Co,B9,Bc,List.nil_append,List.cons_append,List.take_zero,List.drop_zero,List.drop_succ_cons,List.take_succ_cons,List.drop_nil,List.append_nil,Bool.and_true,Bool.true_and,Bool.and_false,Bool.false_and,Bool.or_true,Bool.true_or,Bool.or_false,Bool.false_or,BQ,Cz,C0,Ck,D4,Cu, Cc,Bo,Cm,B5,CT,C2,Bk,Bz,BG,Nat.one_mul,Nat.mul_one,Bi,Bx,BE,AP,BO,BS,Cb,Ca,AT,Au,BD,AQ,not_true_eq_false,not_false_eq_true,en3,hs,e]
  · rcases a with ⟨rfl, rfl⟩ | ⟨p, ex, rfl, g, _⟩
    · rfl
    · rw [YT g (by omega), List.drop_zero, List.take_length]
theorem size_ok {m:Nat} {f d x pc:K4} {h:Heap} {n:K4} {a c b k room rd calls fl:Nat} {lw w cv sv dv:V} {bs:List UInt8}
    (hf:Ag f h=some (.c (.l (fsC room rd calls fl (.map d) lw w)) false none)) (hd:Ag d h=some (.m [(.str a c, .ptr x 0)] [b] k))
    (hx:Ag x h=some (.c (.l [cv, sv, dv]) false none)) (ho:Kx pc h cv bs) (hbs:bs.length≤1000000000) :
    CE tab (m+1) ⟨.d0, .d2, .d5⟩ [.ptr f 0, .str a c] h n = .rv (.int .i64 bs.length) h n := by
  have hL := ho.len (by omega)
  rw [call2_at, show DB ⟨.d0, .d2, .d5⟩ tab=some x37 from rfl, x37]
  simp (disch := omega) only [g0,g1,g2,g3,g4,g5,g6,g7,g8,g9,E1,DZ,DO,E0,DX,DM,DS,DW,DP,E4,w0,w1,w2,w3,w4,w5,w6,w7,w8,w9,E2,DT,DR,DY,DU,DN,DV,E3,DQ,E7,C5,CY,D6,Bq,BJ,Bs,CZ,CX,CS,D8,Cr,Cl,C7,BY,Cp,C4,C3,Cj,Cw,BP,C1,D5,Br,Cv,C6,Ch,Ce,Cd,B4,AN,AL,AM,AB,AF,As,AU,Ay,Bh,BF,CR,Cn,Bu,BA,Ct,AW,BC,AY,BI,Bb,B3,BV,Bl,Ci,Bw,Be,B7,B6,cond_true,cond_false,List.set_cons_zero,List.set_cons_succ,List.length_cons,List.length_nil,A6,Ak,Aa,Mk,Nat.reduceAdd,Nat.reduceSub,Nat.reduceMul,Nat.reduceMod,Nat.reduceDiv,decide_true,decide_false,Nat.zero_add,beq_self_eq_true,Bool.not_true,Bool.not_false,bne_self_eq_false,CO,BU,BX,BW,C8,BR,AO,AV,Nat.mod_eq_of_lt,decide_eq_true,decide_eq_false,Q0,U,D9,BZ,D7,Cy,Cq,AH,Aj,Al,AE,Av,AA,AD,Aw,Az,Ar,Cg,Bm,BH,Bj,AZ,BK,Bn,Bt,B1,BT,Cx,  Bp,CV,CW,Aq,Af,Ao,AS,Cf,CA,B8,Ac,A8,Ad,Ax,Ai,Am,Ae,AX,CP,Ba,Ab,Bv,BB,Bf,By,C9,CQ,BN,AR,Bd,Co,B9,Bc,List.nil_append,List.cons_append,List.take_zero,List.drop_zero,List.drop_succ_cons,List.take_succ_cons,List.drop_nil,List.append_nil,Bool.and_true,Bool.true_and,Bool.and_false,Bool.false_and,Bool.or_true,Bool.true_or,Bool.or_false,Bool.false_or,BQ,Cz,C0,Ck,D4,Cu, Cc,Bo,Cm,B5,CT,C2,Bk,Bz,BG,Nat.one_mul,Nat.mul_one,Bi,Bx,BE,AP,BO,BS,Cb,Ca,AT,Au,BD,AQ,not_true_eq_false,not_false_eq_true,en1,hf,hd,hx,hL]
theorem save_big {m:Nat} {h:Heap} {n sp:K4} {v:V} {l:List UInt8} (hv:FK v l h) (hl:4080<l.length) (hl2:l.length≤1000000):CE tab (m+1) ⟨.d0, .d2, .d1⟩ [.ptr sp 0, v] h n = .rv (.int .i64 9) h n := by
  have el := hv.len (by omega)
  rw [call2_at, show DB ⟨.d0, .d2, .d1⟩ tab=some x33 from rfl, x33]
  simp (config := {maxSteps := 3000000}) (disch := omega) only [g0,g1,g2,g3,g4,g5,g6,g7,g8,g9,E1,DZ,DO,E0,DX,DM,DS,DW,DP,E4,w0,w1,w2,w3,w4,w5,w6,w7,w8,w9,E2,DT,DR,DY,DU,DN,DV,E3,DQ,E7,C5,CY,D6,Bq,BJ,Bs,CZ,CX,CS,D8,Cr,Cl,C7,BY,Cp,C4,C3,Cj,Cw,BP,C1,D5,Br,Cv,C6,Ch,Ce,Cd,B4,AN,AL,AM,AB,AF,As,AU,Ay,Bh,BF,CR,Cn,Bu,BA,Ct,AW,BC,AY,BI,Bb,B3,BV,Bl,Ci,Bw,Be,B7,B6,cond_true,cond_false,List.set_cons_zero,List.set_cons_succ,List.length_cons,List.length_nil,A6,Ak,Aa,Mk,Nat.reduceAdd,Nat.reduceSub,Nat.reduceMul,Nat.reduceMod,Nat.reduceDiv,decide_true,decide_false,Nat.zero_add,beq_self_eq_true,Bool.not_true,Bool.not_false,bne_self_eq_false,CO,BU,BX,BW,C8,BR,AO,AV,Nat.mod_eq_of_lt,decide_eq_true,decide_eq_false,Q0,U,D9,BZ,D7,Cy,Cq,AH,Aj,Al,AE,Av,AA,AD,Aw,Az,Ar,Cg,Bm,BH,Bj,AZ,BK,Bn,Bt,B1,BT,Cx,  Bp,CV,CW,Aq,Af,Ao,AS,Cf,CA,B8,Ac,A8,Ad,Ax,Ai,Am,Ae,AX,CP,Ba,Ab,Bv,BB,Bf,By,C9,CQ,BN,AR,Bd,Co,B9,Bc,List.nil_append,List.cons_append,List.take_zero,List.drop_zero,List.drop_succ_cons,List.take_succ_cons,List.drop_nil,List.append_nil,Bool.and_true,Bool.true_and,Bool.and_false,Bool.false_and,Bool.or_true,Bool.true_or,Bool.or_false,Bool.false_or,BQ,Cz,C0,Ck,D4,Cu, Cc,Bo,Cm,B5,CT,C2,Bk,Bz,BG,Nat.one_mul,Nat.mul_one,Bi,Bx,BE,AP,BO,BS,Cb,Ca,AT,Au,BD,AQ,not_true_eq_false,not_false_eq_true,en1,el]
noncomputable def opB (c:Jn):S->Heap->K4->R := fun t h n=>g7 t fun z8=>DF z8 (iI 2) fun z9=>Ed z9 (CH 1 (M6 z8 (iI 4096) fun za=>g0 t fun zb=>g1 t fun zc=>g4 t fun zd=>Eh zd za fun ze=>MV (iI 4096) ze fun zf=>B2 (c ⟨.d0,.d1,.d14⟩ [zb,zc,za,zf] h n) fun zg h n=>Eo 0 zg fun zh=>Eo 1 zg fun zi=>EL zi (iI 0) fun zj=>Ed zj (.ok (.exit 1) t h n)<|B2 (c ⟨.d0,.d4,.d1⟩ [zh] h n) fun zk h n=>Eo 0 zk fun zl=>Eo 1 zk fun zm=>Eo 2 zk fun zn=>g6 t fun zo=>gK zn zo h n fun zp h n=>gO zn h n (fun k=>Gn zp k) fun zq h n=>gK zn zq h n fun zr h n=>F8 false zr h n (fun k=>k zl h n) fun zs h n=>g5 t fun zt=>F8 false zr h n (fun k=>k zt h n) fun zu h n=>F8 false zr h n (fun k=>BM zu fun v=>k v h n) fun zv h n=>F8 false zr h n (fun k=>CK 3 zv fun v=>k v h n) fun zw h n=>F8 false zr h n (fun k=>Dc zw h fun v=>k v h n) fun zx h n=>F8 false zr h n (fun k=>G7 zs zx fun v=>k v h n) fun zy h n=>gO zn h n (fun k=>DE zr (.bool true) zy k) fun zz h n=>DE zn zz (.bool false) fun z10=>Ep (Ed z10 (B2 (c ⟨.d0,.d3,.d7⟩ [zm] h n) fun z11 h n=>BM zt fun z12=>CK 3 z12 fun z13=>Ea z13 zl h fun h=>BM zt fun z14=>CK 2 z14 fun z15=>Ea z15 z11 h fun h=>BM zt fun z16=>CK 4 z16 fun z17=>Ea z17 z8 h fun h=>w6 t (.bool true) fun t=>nR t h n) (nR t h n)) fun t h n=>nR t h n) fun t h n=>g7 t fun z18=>Dv z18 (iI 1) fun z19=>w7 t z19 fun t=>nR t h n)<|.ok (.exit 0) t h n
noncomputable def x34L:Ent := .code en1 (fun c t h n=>g0 t fun z1=>g1 t fun z2=>B2 (c ⟨.d0,.d2,.d5⟩ [z1,z2] h n) fun z3 h n=>DF z3 (iI 0) fun z4=>Ed z4 (w2 t (.nil .ptr) fun t=>w3 t (iI 1) fun t=>w4 t z3 fun t=>rT t h n)<|CI 0 z1 [(.nil .ptr),(.str 0 0),(.nil .sl),(iL 0),(iI 0),(iL 0)] fun z5=>CI 1 z2 z5 fun z6=>HG (.agg z6) h n fun z7 h n=>CH 0 (w2 t (.nil .ptr) fun t=>w3 t (iI 0) fun t=>w4 t z3 fun t=>w5 t z7 fun t=>w6 t (.bool false) fun t=>w7 t (iI 0) fun t=>EJ (opB c) t h n) fun t h n=>g6 t fun z1a=>Gn z1a fun z1b=>Ed z1b (w2 t (.nil .ptr) fun t=>w3 t (iI 4) fun t=>rT t h n)<|g5 t fun z1c=>BM z1c fun z1d=>CK 3 z1d fun z1e=>Dc z1e h fun z1f=>BM z1c fun z1g=>CK 5 z1g fun z1h=>Ea z1h z1f h fun h=>w2 t z1c fun t=>w3 t (iI 0) fun t=>rT t h n) (fun t h n=>g2 t fun a0=>g3 t fun a1=>.rv (.tup [a0,a1]) h n)
theorem x34_L:x34=x34L := rfl
/-- What Open knows between two rounds. -/
structure OS (h:Heap) (n f d x pc sp:K4) (room rd calls fl b k:Nat) (lw w:V) (bs:List UInt8) (cv sv dv tv:V) (cur turn:Nat) (text:List UInt8) (h0:Heap) (n0:K4) (av:List K4):Prop where
  hf:Ag f h=some (.c (.l (fsC room rd calls fl (.map d) lw w)) false none)
  hd:Ag d h=some (.m [(.str 1 65, .ptr x 0)] [b] k)
  hx:Ag x h=some (.c (.l [cv, sv, dv]) false none)
  own:Kx pc h cv bs
  hs:Ag sp h=some (.c (.l (spC f tv turn cur 0)) false none)
  ot:At h n av tv text
  fa:f∈av
  sa:sp∈av
  la:∀ q∈av, q.toN<n.toN
  fr:Dg h n
  fo:∀ q:K4, q.toN<n0.toN->q≠f->Ag q h=Ag q h0
  lf:f.toN<n0.toN
  ld:d.toN<n0.toN
  lx:x.toN<n0.toN
  lp:pc.toN<n0.toN
  l0:n0.toN≤sp.toN
  ls:sp.toN<n.toN
  nd:d≠f
  nx:x≠f
  np:pc≠f
theorem opB_in {m:Nat} {h h0:Heap} {n n0 f d x pc sp:K4} {room rd calls fl b k cur turn i:Nat} {lw w cv sv dv tv:V} {bs text:List UInt8} {fd:Bool} {av:List K4} (D:OS h n f d x pc sp room rd calls fl b k lw w bs cv sv dv tv cur turn text h0 n0 av)
    (hbs:bs.length=8192) (hi:i<2) (hrd:rd<100000000) (hn:n.toN<56000) (htl:turn<18446744073709551616) :
    (rdOK ((bs.drop (i*4096)).take 4096)=true->fd=false∨turn<rdTurn ((bs.drop (i*4096)).take 4096) →
      ∃ h' n' tv', opB (CE tab (m+3)) (.mk (.mk (.ptr f 0) (.str 1 65) (.nil .ptr) (.int .i64 0)) (.mk (.int .i64 8192) (.ptr sp 0) (.bool fd) (.int .i64 i)) Q0 Q0 Q0 Q0 Q0 Q0) h n = .ok .nrm (.mk (.mk (.ptr f 0) (.str 1 65) (.nil .ptr) (.int .i64 0)) (.mk (.int .i64 8192) (.ptr sp 0) (.bool true) (.int .i64 (i+1))) Q0 Q0 Q0 Q0 Q0 Q0) h' n' ∧
        n.toN≤n'.toN∧n'.toN≤n.toN+6∧OS h' n' f d x pc sp room (rd+4096) calls fl b k lw w bs cv sv dv tv' i (rdTurn ((bs.drop (i*4096)).take 4096)) (rdText ((bs.drop (i*4096)).take 4096)) h0 n0 av) ∧
    (rdOK ((bs.drop (i*4096)).take 4096)=false∨(fd=true∧rdTurn ((bs.drop (i*4096)).take 4096)≤turn) →
      ∃ h' n', opB (CE tab (m+3)) (.mk (.mk (.ptr f 0) (.str 1 65) (.nil .ptr) (.int .i64 0)) (.mk (.int .i64 8192) (.ptr sp 0) (.bool fd) (.int .i64 i)) Q0 Q0 Q0 Q0 Q0 Q0) h n = .ok .nrm (.mk (.mk (.ptr f 0) (.str 1 65) (.nil .ptr) (.int .i64 0)) (.mk (.int .i64 8192) (.ptr sp 0) (.bool fd) (.int .i64 (i+1))) Q0 Q0 Q0 Q0 Q0 Q0) h' n' ∧
        n.toN≤n'.toN∧n'.toN≤n.toN+6∧OS h' n' f d x pc sp room (rd+4096) calls fl b k lw w bs cv sv dv tv cur turn text h0 n0 av) := by
  have ⟨lf, ld, lx, lp, l0, ls⟩:f.toN<n0.toN∧d.toN<n0.toN∧x.toN<n0.toN∧pc.toN<n0.toN∧n0.toN≤sp.toN∧sp.toN<n.toN := ⟨D.lf, D.ld, D.lx, D.lp, D.l0, D.ls⟩
  obtain ⟨h1, n1, v1, p1, e1, b1, b1', r1, f1, y1, o1, q1⟩ := read_ok (m := m+1) (n := n) (off := i*4096) (len := 4096) D.hf D.hd D.hx D.own (by omega) (by omega) (by omega) (by omega) D.nd D.nx (by omega) D.np (by omega)
  have hmul:(i*4096) % 18446744073709551616=i*4096 := Nat.mod_eq_of_lt (by omega)
  have hmin:∀ κ, MV (.int .i64 4096) (.int .i64 (8192 - i*4096)) κ=κ (.int .i64 4096) := fun κ => by
    rw [C1 (by omega) (by omega), CO (by omega) (by omega), decide_eq_false (by omega)]; rfl
  have hBl:((bs.drop (i*4096)).take 4096).length=4096 := Fm (by omega)
  generalize hB:(bs.drop (i*4096)).take 4096=B at *
  obtain ⟨ex1, rfl, gB⟩:∃ ex, v1 = .sl p1 0 B.length B.length ex 1∧Ag p1 h1=some (.c (cb B) false none) := by
    rcases o1 with ⟨_, rfl⟩ | o1
    · cases hBl
    · exact o1
  obtain ⟨tvv, vv, e2, k2⟩ := read65 (m := m) (n := n1) (ex := ex1) gB (by omega) (by omega)
  have hs1 := (f1 sp ls (K4.ne_of_lt (by omega)).symm).trans D.hs
  have hT:rdTurn B<18446744073709551616 := numL_lt (B.take 8)
  rw [show m+1+2=m+3 from rfl] at e1
  have D1:OS h1 n1 f d x pc sp room (rd+4096) calls fl b k lw w bs cv sv dv tv cur turn text h0 n0 av :=
    ⟨y1, (f1 d (by omega) D.nd).trans D.hd, (f1 x (by omega) D.nx).trans D.hx, D.own.frame (f1 pc (by omega) D.np), hs1, D.ot.frame b1 fun p hp hq => ⟨f1 p hp (hq f D.fa), hq⟩, D.fa, D.sa, fun q hq => Nat.lt_of_lt_of_le (D.la q hq) b1, r1 D.fr, fun q hq hqf => (f1 q (by omega) hqf).trans (D.fo q hq hqf), lf, ld, lx, lp, l0, by omega, D.nd, D.nx, D.np⟩
  refine ⟨fun hok hfd => ?_, fun hno => ?_⟩
  · obtain ⟨rfl, k3, rfl⟩ := k2 hok
    rw [hok] at e2
    obtain ⟨h2, n2, tv', e3, b2, b2', t2, f2, r2, w2'⟩ := clone_src (m := m+2) (n := n1) (l := rdText B) (v := .sl p1 16 (rdLen B) (B.length - 16) ex1 1) (h := h1) (.inr (.inr ⟨p1, 16, B.length - 16, ex1, B, false, none, by rw [rdText, Fm (by omega)], gB, by rw [rdText, Fm (by omega)]; omega, by rw [rdText, Fm (by omega)]⟩)) (fun p hp => by
      obtain ⟨_, _, _, e⟩ := hp; obtain ⟨rfl, _⟩ := V.sl.inj e
      rcases q1 with rfl | q1 <;> omega) (by rw [rdText, Fm (by omega)]; omega) (by omega) av (fun q hq => Nat.lt_of_lt_of_le (D.la q hq) b1)
    have hs2 := (f2 sp (by omega)).trans hs1
    have sT:∀ (p:K4) (off:Nat) (h:Heap) (κ:Heap->R), Ea (.ptr p off) tv' h κ=UP (Ag p h) h p off tv' κ := by
      rcases w2' with rfl | ⟨_, _, _, rfl⟩
      · exact fun p off h κ => B3 _ _ _ _ _
      · exact fun p off h κ => BV _ _ _ _ _ _ _ _ _ _
    refine ⟨B0 sp h2 (some (.c (.l (spC f tv' (rdTurn B) i 0)) false none)), n2, tv', ?_, by omega, by omega, ?_⟩
    · rw [show m+2+1=m+3 from rfl] at e3
      unfold opB
      rcases hfd with rfl | hfd
      · simp (config := {maxSteps := 3000000}) (disch := omega) only [g0,g1,g2,g3,g4,g5,g6,g7,g8,g9,E1,DZ,DO,E0,DX,DM,DS,DW,DP,E4,w0,w1,w2,w3,w4,w5,w6,w7,w8,w9,E2,DT,DR,DY,DU,DN,DV,E3,DQ,E7,C5,CY,D6,Bq,BJ,Bs,CZ,CX,CS,D8,Cr,Cl,C7,BY,Cp,C4,C3,Cj,Cw,BP,C1,D5,Br,Cv,C6,Ch,Ce,Cd,B4,AN,AL,AM,AB,AF,As,AU,Ay,Bh,BF,CR,Cn,Bu,BA,Ct,AW,BC,AY,BI,Bb,B3,BV,Bl,Ci,Bw,Be,B7,B6,cond_true,cond_false,List.set_cons_zero,List.set_cons_succ,List.length_cons,List.length_nil,A6,Ak,Aa,Mk,Nat.reduceAdd,Nat.reduceSub,Nat.reduceMul,Nat.reduceMod,Nat.reduceDiv,decide_true,decide_false,Nat.zero_add,beq_self_eq_true,Bool.not_true,Bool.not_false,bne_self_eq_false,CO,BU,BX,BW,C8,BR,AO,AV,Nat.mod_eq_of_lt,decide_eq_true,decide_eq_false,Q0,U,D9,BZ,D7,Cy,Cq,AH,Aj,Al,AE,Av,AA,AD,Aw,Az,Ar,Cg,Bm,BH,Bj,AZ,BK,Bn,Bt,B1,BT,Cx,  Bp,CV,CW,Aq,Af,Ao,AS,Cf,CA,B8,Ac,A8,Ad,Ax,Ai,Am,Ae,AX,CP,Ba,Ab,Bv,BB,Bf,By,C9,CQ,BN,AR,Bd,Co,B9,Bc,List.nil_append,List.cons_append,List.take_zero,List.drop_zero,List.drop_succ_cons,List.take_succ_cons,List.drop_nil,List.append_nil,Bool.and_true,Bool.true_and,Bool.and_false,Bool.false_and,Bool.or_true,Bool.true_or,Bool.or_false,Bool.false_or,BQ,Cz,C0,Ck,D4,Cu, Cc,Bo,Cm,B5,CT,C2,Bk,Bz,BG,Nat.one_mul,Nat.mul_one,Bi,Bx,BE,AP,BO,BS,Cb,Ca,AT,Au,BD,AQ,not_true_eq_false,not_false_eq_true,hmul,hmin,e1,e2,e3,hs1,hs2,sT,Jv,JJ,q_tf,q_ff,q_gdU]
      · have hg:decide (turn<rdTurn B)=true := decide_eq_true hfd
        cases fd
        · simp (config := {maxSteps := 3000000}) (disch := omega) only [g0,g1,g2,g3,g4,g5,g6,g7,g8,g9,E1,DZ,DO,E0,DX,DM,DS,DW,DP,E4,w0,w1,w2,w3,w4,w5,w6,w7,w8,w9,E2,DT,DR,DY,DU,DN,DV,E3,DQ,E7,C5,CY,D6,Bq,BJ,Bs,CZ,CX,CS,D8,Cr,Cl,C7,BY,Cp,C4,C3,Cj,Cw,BP,C1,D5,Br,Cv,C6,Ch,Ce,Cd,B4,AN,AL,AM,AB,AF,As,AU,Ay,Bh,BF,CR,Cn,Bu,BA,Ct,AW,BC,AY,BI,Bb,B3,BV,Bl,Ci,Bw,Be,B7,B6,cond_true,cond_false,List.set_cons_zero,List.set_cons_succ,List.length_cons,List.length_nil,A6,Ak,Aa,Mk,Nat.reduceAdd,Nat.reduceSub,Nat.reduceMul,Nat.reduceMod,Nat.reduceDiv,decide_true,decide_false,Nat.zero_add,beq_self_eq_true,Bool.not_true,Bool.not_false,bne_self_eq_false,CO,BU,BX,BW,C8,BR,AO,AV,Nat.mod_eq_of_lt,decide_eq_true,decide_eq_false,Q0,U,D9,BZ,D7,Cy,Cq,AH,Aj,Al,AE,Av,AA,AD,Aw,Az,Ar,Cg,Bm,BH,Bj,AZ,BK,Bn,Bt,B1,BT,Cx,  Bp,CV,CW,Aq,Af,Ao,AS,Cf,CA,B8,Ac,A8,Ad,Ax,Ai,Am,Ae,AX,CP,Ba,Ab,Bv,BB,Bf,By,C9,CQ,BN,AR,Bd,Co,B9,Bc,List.nil_append,List.cons_append,List.take_zero,List.drop_zero,List.drop_succ_cons,List.take_succ_cons,List.drop_nil,List.append_nil,Bool.and_true,Bool.true_and,Bool.and_false,Bool.false_and,Bool.or_true,Bool.true_or,Bool.or_false,Bool.false_or,BQ,Cz,C0,Ck,D4,Cu, Cc,Bo,Cm,B5,CT,C2,Bk,Bz,BG,Nat.one_mul,Nat.mul_one,Bi,Bx,BE,AP,BO,BS,Cb,Ca,AT,Au,BD,AQ,not_true_eq_false,not_false_eq_true,hmul,hmin,e1,e2,e3,hs1,hs2,sT,Jv,JJ,q_tf,q_ff,q_gdU]
        · simp (config := {maxSteps := 3000000}) (disch := omega) only [g0,g1,g2,g3,g4,g5,g6,g7,g8,g9,E1,DZ,DO,E0,DX,DM,DS,DW,DP,E4,w0,w1,w2,w3,w4,w5,w6,w7,w8,w9,E2,DT,DR,DY,DU,DN,DV,E3,DQ,E7,C5,CY,D6,Bq,BJ,Bs,CZ,CX,CS,D8,Cr,Cl,C7,BY,Cp,C4,C3,Cj,Cw,BP,C1,D5,Br,Cv,C6,Ch,Ce,Cd,B4,AN,AL,AM,AB,AF,As,AU,Ay,Bh,BF,CR,Cn,Bu,BA,Ct,AW,BC,AY,BI,Bb,B3,BV,Bl,Ci,Bw,Be,B7,B6,cond_true,cond_false,List.set_cons_zero,List.set_cons_succ,List.length_cons,List.length_nil,A6,Ak,Aa,Mk,Nat.reduceAdd,Nat.reduceSub,Nat.reduceMul,Nat.reduceMod,Nat.reduceDiv,decide_true,decide_false,Nat.zero_add,beq_self_eq_true,Bool.not_true,Bool.not_false,bne_self_eq_false,CO,BU,BX,BW,C8,BR,AO,AV,Nat.mod_eq_of_lt,decide_eq_true,decide_eq_false,Q0,U,D9,BZ,D7,Cy,Cq,AH,Aj,Al,AE,Av,AA,AD,Aw,Az,Ar,Cg,Bm,BH,Bj,AZ,BK,Bn,Bt,B1,BT,Cx,  Bp,CV,CW,Aq,Af,Ao,AS,Cf,CA,B8,Ac,A8,Ad,Ax,Ai,Am,Ae,AX,CP,Ba,Ab,Bv,BB,Bf,By,C9,CQ,BN,AR,Bd,Co,B9,Bc,List.nil_append,List.cons_append,List.take_zero,List.drop_zero,List.drop_succ_cons,List.take_succ_cons,List.drop_nil,List.append_nil,Bool.and_true,Bool.true_and,Bool.and_false,Bool.false_and,Bool.or_true,Bool.true_or,Bool.or_false,Bool.false_or,BQ,Cz,C0,Ck,D4,Cu, Cc,Bo,Cm,B5,CT,C2,Bk,Bz,BG,Nat.one_mul,Nat.mul_one,Bi,Bx,BE,AP,BO,BS,Cb,Ca,AT,Au,BD,AQ,not_true_eq_false,not_false_eq_true,hmul,hmin,e1,e2,e3,hs1,hs2,sT,Jv,JJ,q_tf,q_ff,q_gdU,hg]
    · have ne:∀ q:K4, q.toN<n0.toN->q≠sp := fun q hq => K4.ne_of_lt (by omega)
      have k:∀ q:K4, q.toN<n0.toN->Ag q (B0 sp h2 (some (.c (.l (spC f tv' (rdTurn B) i 0)) false none)))=Ag q h1 := fun q hq => (A7 _ _ (ne q hq).symm).trans (f2 q (by omega))
      exact ⟨(k f lf).trans y1, (k d ld).trans D1.hd, (k x lx).trans D1.hx, D1.own.frame (k pc lp), A6 _ _ _, t2.frame (Nat.le_refl _) fun p hp hq => ⟨A7 _ _ (hq sp D.sa).symm, hq⟩, D.fa, D.sa, fun q hq => Nat.lt_of_lt_of_le (D1.la q hq) b2, fun q hq => (Ao (by omega) _ _).trans (r2 D1.fr q hq), fun q hq hqf => (k q hq).trans (D1.fo q hq hqf), lf, ld, lx, lp, l0, by omega, D.nd, D.nx, D.np⟩
  · refine ⟨h1, n1, ?_, b1, by omega, D1⟩
    unfold opB
    rcases hno with hno | ⟨rfl, hno⟩
    · rw [hno] at e2
      simp (config := {maxSteps := 3000000}) (disch := omega) only [g0,g1,g2,g3,g4,g5,g6,g7,g8,g9,E1,DZ,DO,E0,DX,DM,DS,DW,DP,E4,w0,w1,w2,w3,w4,w5,w6,w7,w8,w9,E2,DT,DR,DY,DU,DN,DV,E3,DQ,E7,C5,CY,D6,Bq,BJ,Bs,CZ,CX,CS,D8,Cr,Cl,C7,BY,Cp,C4,C3,Cj,Cw,BP,C1,D5,Br,Cv,C6,Ch,Ce,Cd,B4,AN,AL,AM,AB,AF,As,AU,Ay,Bh,BF,CR,Cn,Bu,BA,Ct,AW,BC,AY,BI,Bb,B3,BV,Bl,Ci,Bw,Be,B7,B6,cond_true,cond_false,List.set_cons_zero,List.set_cons_succ,List.length_cons,List.length_nil,A6,Ak,Aa,Mk,Nat.reduceAdd,Nat.reduceSub,Nat.reduceMul,Nat.reduceMod,Nat.reduceDiv,decide_true,decide_false,Nat.zero_add,beq_self_eq_true,Bool.not_true,Bool.not_false,bne_self_eq_false,CO,BU,BX,BW,C8,BR,AO,AV,Nat.mod_eq_of_lt,decide_eq_true,decide_eq_false,Q0,U,D9,BZ,D7,Cy,Cq,AH,Aj,Al,AE,Av,AA,AD,Aw,Az,Ar,Cg,Bm,BH,Bj,AZ,BK,Bn,Bt,B1,BT,Cx,  Bp,CV,CW,Aq,Af,Ao,AS,Cf,CA,B8,Ac,A8,Ad,Ax,Ai,Am,Ae,AX,CP,Ba,Ab,Bv,BB,Bf,By,C9,CQ,BN,AR,Bd,Co,B9,Bc,List.nil_append,List.cons_append,List.take_zero,List.drop_zero,List.drop_succ_cons,List.take_succ_cons,List.drop_nil,List.append_nil,Bool.and_true,Bool.true_and,Bool.and_false,Bool.false_and,Bool.or_true,Bool.true_or,Bool.or_false,Bool.false_or,BQ,Cz,C0,Ck,D4,Cu, Cc,Bo,Cm,B5,CT,C2,Bk,Bz,BG,Nat.one_mul,Nat.mul_one,Bi,Bx,BE,AP,BO,BS,Cb,Ca,AT,Au,BD,AQ,not_true_eq_false,not_false_eq_true,hmul,hmin,e1,e2,Jv,JJ,q_tf,q_ff,q_gdU]
    · cases hok:rdOK B
      · rw [hok] at e2
        simp (config := {maxSteps := 3000000}) (disch := omega) only [g0,g1,g2,g3,g4,g5,g6,g7,g8,g9,E1,DZ,DO,E0,DX,DM,DS,DW,DP,E4,w0,w1,w2,w3,w4,w5,w6,w7,w8,w9,E2,DT,DR,DY,DU,DN,DV,E3,DQ,E7,C5,CY,D6,Bq,BJ,Bs,CZ,CX,CS,D8,Cr,Cl,C7,BY,Cp,C4,C3,Cj,Cw,BP,C1,D5,Br,Cv,C6,Ch,Ce,Cd,B4,AN,AL,AM,AB,AF,As,AU,Ay,Bh,BF,CR,Cn,Bu,BA,Ct,AW,BC,AY,BI,Bb,B3,BV,Bl,Ci,Bw,Be,B7,B6,cond_true,cond_false,List.set_cons_zero,List.set_cons_succ,List.length_cons,List.length_nil,A6,Ak,Aa,Mk,Nat.reduceAdd,Nat.reduceSub,Nat.reduceMul,Nat.reduceMod,Nat.reduceDiv,decide_true,decide_false,Nat.zero_add,beq_self_eq_true,Bool.not_true,Bool.not_false,bne_self_eq_false,CO,BU,BX,BW,C8,BR,AO,AV,Nat.mod_eq_of_lt,decide_eq_true,decide_eq_false,Q0,U,D9,BZ,D7,Cy,Cq,AH,Aj,Al,AE,Av,AA,AD,Aw,Az,Ar,Cg,Bm,BH,Bj,AZ,BK,Bn,Bt,B1,BT,Cx,  Bp,CV,CW,Aq,Af,Ao,AS,Cf,CA,B8,Ac,A8,Ad,Ax,Ai,Am,Ae,AX,CP,Ba,Ab,Bv,BB,Bf,By,C9,CQ,BN,AR,Bd,Co,B9,Bc,List.nil_append,List.cons_append,List.take_zero,List.drop_zero,List.drop_succ_cons,List.take_succ_cons,List.drop_nil,List.append_nil,Bool.and_true,Bool.true_and,Bool.and_false,Bool.false_and,Bool.or_true,Bool.true_or,Bool.or_false,Bool.false_or,BQ,Cz,C0,Ck,D4,Cu, Cc,Bo,Cm,B5,CT,C2,Bk,Bz,BG,Nat.one_mul,Nat.mul_one,Bi,Bx,BE,AP,BO,BS,Cb,Ca,AT,Au,BD,AQ,not_true_eq_false,not_false_eq_true,hmul,hmin,e1,e2,Jv,JJ,q_tf,q_ff,q_gdU]
      · obtain ⟨rfl, k3, rfl⟩ := k2 hok
        rw [hok] at e2
        have hg:decide (turn<rdTurn B)=false := decide_eq_false (by omega)
        simp (config := {maxSteps := 3000000}) (disch := omega) only [g0,g1,g2,g3,g4,g5,g6,g7,g8,g9,E1,DZ,DO,E0,DX,DM,DS,DW,DP,E4,w0,w1,w2,w3,w4,w5,w6,w7,w8,w9,E2,DT,DR,DY,DU,DN,DV,E3,DQ,E7,C5,CY,D6,Bq,BJ,Bs,CZ,CX,CS,D8,Cr,Cl,C7,BY,Cp,C4,C3,Cj,Cw,BP,C1,D5,Br,Cv,C6,Ch,Ce,Cd,B4,AN,AL,AM,AB,AF,As,AU,Ay,Bh,BF,CR,Cn,Bu,BA,Ct,AW,BC,AY,BI,Bb,B3,BV,Bl,Ci,Bw,Be,B7,B6,cond_true,cond_false,List.set_cons_zero,List.set_cons_succ,List.length_cons,List.length_nil,A6,Ak,Aa,Mk,Nat.reduceAdd,Nat.reduceSub,Nat.reduceMul,Nat.reduceMod,Nat.reduceDiv,decide_true,decide_false,Nat.zero_add,beq_self_eq_true,Bool.not_true,Bool.not_false,bne_self_eq_false,CO,BU,BX,BW,C8,BR,AO,AV,Nat.mod_eq_of_lt,decide_eq_true,decide_eq_false,Q0,U,D9,BZ,D7,Cy,Cq,AH,Aj,Al,AE,Av,AA,AD,Aw,Az,Ar,Cg,Bm,BH,Bj,AZ,BK,Bn,Bt,B1,BT,Cx,  Bp,CV,CW,Aq,Af,Ao,AS,Cf,CA,B8,Ac,A8,Ad,Ax,Ai,Am,Ae,AX,CP,Ba,Ab,Bv,BB,Bf,By,C9,CQ,BN,AR,Bd,Co,B9,Bc,List.nil_append,List.cons_append,List.take_zero,List.drop_zero,List.drop_succ_cons,List.take_succ_cons,List.drop_nil,List.append_nil,Bool.and_true,Bool.true_and,Bool.and_false,Bool.false_and,Bool.or_true,Bool.true_or,Bool.or_false,Bool.false_or,BQ,Cz,C0,Ck,D4,Cu, Cc,Bo,Cm,B5,CT,C2,Bk,Bz,BG,Nat.one_mul,Nat.mul_one,Bi,Bx,BE,AP,BO,BS,Cb,Ca,AT,Au,BD,AQ,not_true_eq_false,not_false_eq_true,hmul,hmin,e1,e2,hs1,Jv,JJ,q_tf,q_ff,q_gdU,hg]
theorem opB_out {m:Nat} {h:Heap} {n f sp:K4} {fd:Bool} :
    opB (CE tab m) (.mk (.mk (.ptr f 0) (.str 1 65) (.nil .ptr) (.int .i64 0)) (.mk (.int .i64 8192) (.ptr sp 0) (.bool fd) (.int .i64 2)) Q0 Q0 Q0 Q0 Q0 Q0) h n = .ok (.exit 0) (.mk (.mk (.ptr f 0) (.str 1 65) (.nil .ptr) (.int .i64 0)) (.mk (.int .i64 8192) (.ptr sp 0) (.bool fd) (.int .i64 2)) Q0 Q0 Q0 Q0 Q0 Q0) h n := by
  unfold opB
  simp (disch := omega) only [g0,g1,g2,g3,g4,g5,g6,g7,g8,g9,E1,DZ,DO,E0,DX,DM,DS,DW,DP,E4,w0,w1,w2,w3,w4,w5,w6,w7,w8,w9,E2,DT,DR,DY,DU,DN,DV,E3,DQ,E7,C5,CY,D6,Bq,BJ,Bs,CZ,CX,CS,D8,Cr,Cl,C7,BY,Cp,C4,C3,Cj,Cw,BP,C1,D5,Br,Cv,C6,Ch,Ce,Cd,B4,AN,AL,AM,AB,AF,As,AU,Ay,Bh,BF,CR,Cn,Bu,BA,Ct,AW,BC,AY,BI,Bb,B3,BV,Bl,Ci,Bw,Be,B7,B6,cond_true,cond_false,List.set_cons_zero,List.set_cons_succ,List.length_cons,List.length_nil,A6,Ak,Aa,Mk,Nat.reduceAdd,Nat.reduceSub,Nat.reduceMul,Nat.reduceMod,Nat.reduceDiv,decide_true,decide_false,Nat.zero_add,beq_self_eq_true,Bool.not_true,Bool.not_false,bne_self_eq_false,CO,BU,BX,BW,C8,BR,AO,AV,Nat.mod_eq_of_lt,decide_eq_true,decide_eq_false,Q0,U,D9,BZ,D7,Cy,Cq,AH,Aj,Al,AE,Av,AA,AD,Aw,Az,Ar,Cg,Bm,BH,Bj,AZ,BK,Bn,Bt,B1,BT,Cx,  Bp,CV,CW,Aq,Af,Ao,AS,Cf,CA,B8,Ac,A8,Ad,Ax,Ai,Am,Ae,AX,CP,Ba,Ab,Bv,BB,Bf,By,C9,CQ,BN,AR,Bd,Co,B9,Bc,List.nil_append,List.cons_append,List.take_zero,List.drop_zero,List.drop_succ_cons,List.take_succ_cons,List.drop_nil,List.append_nil,Bool.and_true,Bool.true_and,Bool.and_false,Bool.false_and,Bool.or_true,Bool.true_or,Bool.or_false,Bool.false_or,BQ,Cz,C0,Ck,D4,Cu, Cc,Bo,Cm,B5,CT,C2,Bk,Bz,BG,Nat.one_mul,Nat.mul_one,Bi,Bx,BE,AP,BO,BS,Cb,Ca,AT,Au,BD,AQ,not_true_eq_false,not_false_eq_true]
theorem open_ok {m:Nat} {h:Heap} {n f d x pc:K4} {room rd calls fl b k cur turn:Nat} {lw w cv sv dv:V} {bs l:List UInt8} {av:List K4}
    (hf:Ag f h=some (.c (.l (fsC room rd calls fl (.map d) lw w)) false none)) (hd:Ag d h=some (.m [(.str 1 65, .ptr x 0)] [b] k)) (hx:Ag x h=some (.c (.l [cv, sv, dv]) false none)) (ho:Kx pc h cv bs) (hbs:bs.length=8192) (hfr:Dg h n)
    (lf:f.toN<n.toN) (ld:d.toN<n.toN) (lx:x.toN<n.toN) (lp:pc.toN<n.toN) (nd:d≠f) (nx:x≠f) (np:pc≠f) (hn:n.toN<55000) (hrd:rd<90000000) (fa:f∈av) (la:∀ q∈av, q.toN<n.toN) (hcur:cur≤1) (ht0:0<turn) (ht:turn<18446744073709551616)
    (hC:rdOK ((bs.drop (cur*4096)).take 4096)=true) (hC2:rdTurn ((bs.drop (cur*4096)).take 4096)=turn) (hC3:rdText ((bs.drop (cur*4096)).take 4096)=l) (hO:rdOK ((bs.drop ((1 - cur)*4096)).take 4096)=true->rdTurn ((bs.drop ((1 - cur)*4096)).take 4096)<turn) :
    ∃ h' n' sp tv', CE tab (m+4) ⟨.d0, .d2, .d2⟩ [.ptr f 0, .str 1 65] h n = .rv (.tup [.ptr sp 0, .int .i64 0]) h' n'∧n.toN≤n'.toN∧n'.toN≤n.toN+20∧(∀ q:K4, q.toN<n.toN->q≠f->Ag q h'=Ag q h) ∧
      Ag f h'=some (.c (.l (fsC room (rd+8192) calls fl (.map d) lw w)) false none)∧Ag sp h'=some (.c (.l (spC f tv' turn cur turn)) false none)∧At h' n' (sp::av) tv' l∧n.toN≤sp.toN∧sp.toN<n'.toN∧Dg h' n' := by
  have u1 := K4.up_toN (p := n) (by omega)
  have hS := size_ok (m := m+2) (n := n) hf hd hx ho (by omega)
  rw [hbs, show m+2+1=m+3 from rfl] at hS
  have D0:OS (B0 n h (some (.c (.l (spC f (.nil .sl) 0 0 0)) false none))) n.up f d x pc n room rd calls fl b k lw w bs cv sv dv (.nil .sl) 0 0 [] h n (n::av) :=
    ⟨(Af lf _ _).trans hf, (Af ld _ _).trans hd, (Af lx _ _).trans hx, ho.frame (Af lp _ _), A6 _ _ _, .inl ⟨rfl, rfl⟩, List.mem_cons_of_mem _ fa, List.mem_cons_self, fun q hq => by
      rcases List.mem_cons.1 hq with rfl | hq
      · omega
      · have := la q hq; omega, fun q hq => (Ao (by omega) _ _).trans (hfr q (by omega)), fun q hq _ => Af hq _ _, lf, ld, lx, lp, Nat.le_refl _, by omega, nd, nx, np⟩
  have key:∃ h' n' tv', Gw (opB (CE tab (m+3))) 1000000000 (.mk (.mk (.ptr f 0) (.str 1 65) (.nil .ptr) (.int .i64 0)) (.mk (.int .i64 8192) (.ptr n 0) (.bool false) (.int .i64 0)) Q0 Q0 Q0 Q0 Q0 Q0) (B0 n h (some (.c (.l (spC f (.nil .sl) 0 0 0)) false none))) n.up = .ok (.exit 0) (.mk (.mk (.ptr f 0) (.str 1 65) (.nil .ptr) (.int .i64 0)) (.mk (.int .i64 8192) (.ptr n 0) (.bool true) (.int .i64 2)) Q0 Q0 Q0 Q0 Q0 Q0) h' n' ∧
      n'.toN≤n.toN+13∧n.up.toN≤n'.toN∧OS h' n' f d x pc n room (rd+8192) calls fl b k lw w bs cv sv dv tv' cur turn l h n (n::av) := by
    have A0 := opB_in (m := m) (i := 0) (fd := false) D0 hbs (by omega) (by omega) (by omega) (by omega)
    rcases (by omega:cur=0∨cur=1) with rfl | rfl
    · obtain ⟨h1, n1, tv1, e1, b1, b1', D1⟩ := A0.1 hC (.inl rfl)
      rw [hC2, hC3] at D1
      have A1 := opB_in (m := m) (i := 1) (fd := true) D1 hbs (by omega) (by omega) (by omega) ht
      have hno:rdOK ((bs.drop (1*4096)).take 4096)=false∨(true=true∧rdTurn ((bs.drop (1*4096)).take 4096)≤turn) := by
        cases hc:rdOK ((bs.drop (1*4096)).take 4096)
        · exact .inl rfl
        · exact .inr ⟨rfl, Nat.le_of_lt (hO hc)⟩
      obtain ⟨h2, n2, e2, b2, b2', D2⟩ := A1.2 hno
      refine ⟨h2, n2, tv1, ?_, by omega, by omega, D2⟩
      rw [show (1000000000:Nat)=999999999+1 from rfl, GC, e1, BO, show (999999999:Nat)=999999998+1 from rfl, GC, e2, BO, show (999999998:Nat)=999999997+1 from rfl, GC, opB_out, BS]
    · cases hc:rdOK ((bs.drop (0*4096)).take 4096)
      · obtain ⟨h1, n1, e1, b1, b1', D1⟩ := A0.2 (.inl hc)
        have A1 := opB_in (m := m) (i := 1) (fd := false) D1 hbs (by omega) (by omega) (by omega) (by omega)
        obtain ⟨h2, n2, tv2, e2, b2, b2', D2⟩ := A1.1 hC (.inl rfl)
        rw [hC2, hC3] at D2
        refine ⟨h2, n2, tv2, ?_, by omega, by omega, D2⟩
        rw [show (1000000000:Nat)=999999999+1 from rfl, GC, e1, BO, show (999999999:Nat)=999999998+1 from rfl, GC, e2, BO, show (999999998:Nat)=999999997+1 from rfl, GC, opB_out, BS]
      · obtain ⟨h1, n1, tv1, e1, b1, b1', D1⟩ := A0.1 hc (.inl rfl)
        have hlt := hO hc
        have A1 := opB_in (m := m) (i := 1) (fd := true) D1 hbs (by omega) (by omega) (by omega) (by have := hlt; simp only [Nat.sub_self] at this; omega)
        obtain ⟨h2, n2, tv2, e2, b2, b2', D2⟩ := A1.1 hC (.inr (by rw [hC2]; exact hlt))
        rw [hC2, hC3] at D2
        refine ⟨h2, n2, tv2, ?_, by omega, by omega, D2⟩
        rw [show (1000000000:Nat)=999999999+1 from rfl, GC, e1, BO, show (999999999:Nat)=999999998+1 from rfl, GC, e2, BO, show (999999998:Nat)=999999997+1 from rfl, GC, opB_out, BS]
  obtain ⟨h1, n1, tv1, e1, b1, b1', D1⟩ := key
  have hs1 := D1.hs
  generalize hR:CE tab (m+4) ⟨.d0, .d2, .d2⟩ [.ptr f 0, .str 1 65] h n=R0
  rw [call2_at, show DB ⟨.d0, .d2, .d2⟩ tab=some x34 from rfl, x34_L, x34L] at hR
  simp only [Q0] at e1
  simp (config := {maxSteps := 3000000}) (disch := omega) only [g0,g1,g2,g3,g4,g5,g6,g7,g8,g9,E1,DZ,DO,E0,DX,DM,DS,DW,DP,E4,w0,w1,w2,w3,w4,w5,w6,w7,w8,w9,E2,DT,DR,DY,DU,DN,DV,E3,DQ,E7,C5,CY,D6,Bq,BJ,Bs,CZ,CX,CS,D8,Cr,Cl,C7,BY,Cp,C4,C3,Cj,Cw,BP,C1,D5,Br,Cv,C6,Ch,Ce,Cd,B4,AN,AL,AM,AB,AF,As,AU,Ay,Bh,BF,CR,Cn,Bu,BA,Ct,AW,BC,AY,BI,Bb,B3,BV,Bl,Ci,Bw,Be,B7,B6,cond_true,cond_false,List.set_cons_zero,List.set_cons_succ,List.length_cons,List.length_nil,A6,Ak,Aa,Mk,Nat.reduceAdd,Nat.reduceSub,Nat.reduceMul,Nat.reduceMod,Nat.reduceDiv,decide_true,decide_false,Nat.zero_add,beq_self_eq_true,Bool.not_true,Bool.not_false,bne_self_eq_false,CO,BU,BX,BW,C8,BR,AO,AV,Nat.mod_eq_of_lt,decide_eq_true,decide_eq_false,Q0,U,D9,BZ,D7,Cy,Cq,AH,Aj,Al,AE,Av,AA,AD,Aw,Az,Ar,Cg,Bm,BH,Bj,AZ,BK,Bn,Bt,B1,BT,Cx,  Bp,CV,CW,Aq,Af,Ao,AS,Cf,CA,B8,Ac,A8,Ad,Ax,Ai,Am,Ae,AX,CP,Ba,Ab,Bv,BB,Bf,By,C9,CQ,BN,AR,Bd,Co,B9,Bc,List.nil_append,List.cons_append,List.take_zero,List.drop_zero,List.drop_succ_cons,List.take_succ_cons,List.drop_nil,List.append_nil,Bool.and_true,Bool.true_and,Bool.and_false,Bool.false_and,Bool.or_true,Bool.true_or,Bool.or_false,Bool.false_or,BQ,Cz,C0,Ck,D4,Cu, Cc,Bo,Cm,B5,CT,C2,Bk,Bz,BG,Nat.one_mul,Nat.mul_one,Bi,Bx,BE,AP,BO,BS,Cb,Ca,AT,Au,BD,AQ,not_true_eq_false,not_false_eq_true,en1,hS,HH] at hR
  rw [show iL 0 = .int .u64 0 from rfl] at hR
  rw [show (1000000000:Nat)=999999999+1 from rfl, GC] at e1
  rw [e1] at hR
  simp (config := {maxSteps := 3000000}) (disch := omega) only [g0,g1,g2,g3,g4,g5,g6,g7,g8,g9,E1,DZ,DO,E0,DX,DM,DS,DW,DP,E4,w0,w1,w2,w3,w4,w5,w6,w7,w8,w9,E2,DT,DR,DY,DU,DN,DV,E3,DQ,E7,C5,CY,D6,Bq,BJ,Bs,CZ,CX,CS,D8,Cr,Cl,C7,BY,Cp,C4,C3,Cj,Cw,BP,C1,D5,Br,Cv,C6,Ch,Ce,Cd,B4,AN,AL,AM,AB,AF,As,AU,Ay,Bh,BF,CR,Cn,Bu,BA,Ct,AW,BC,AY,BI,Bb,B3,BV,Bl,Ci,Bw,Be,B7,B6,cond_true,cond_false,List.set_cons_zero,List.set_cons_succ,List.length_cons,List.length_nil,A6,Ak,Aa,Mk,Nat.reduceAdd,Nat.reduceSub,Nat.reduceMul,Nat.reduceMod,Nat.reduceDiv,decide_true,decide_false,Nat.zero_add,beq_self_eq_true,Bool.not_true,Bool.not_false,bne_self_eq_false,CO,BU,BX,BW,C8,BR,AO,AV,Nat.mod_eq_of_lt,decide_eq_true,decide_eq_false,Q0,U,D9,BZ,D7,Cy,Cq,AH,Aj,Al,AE,Av,AA,AD,Aw,Az,Ar,Cg,Bm,BH,Bj,AZ,BK,Bn,Bt,B1,BT,Cx,  Bp,CV,CW,Aq,Af,Ao,AS,Cf,CA,B8,Ac,A8,Ad,Ax,Ai,Am,Ae,AX,CP,Ba,Ab,Bv,BB,Bf,By,C9,CQ,BN,AR,Bd,Co,B9,Bc,List.nil_append,List.cons_append,List.take_zero,List.drop_zero,List.drop_succ_cons,List.take_succ_cons,List.drop_nil,List.append_nil,Bool.and_true,Bool.true_and,Bool.and_false,Bool.false_and,Bool.or_true,Bool.true_or,Bool.or_false,Bool.false_or,BQ,Cz,C0,Ck,D4,Cu, Cc,Bo,Cm,B5,CT,C2,Bk,Bz,BG,Nat.one_mul,Nat.mul_one,Bi,Bx,BE,AP,BO,BS,Cb,Ca,AT,Au,BD,AQ,not_true_eq_false,not_false_eq_true,hs1] at hR
  subst hR
  have ne:∀ q:K4, q.toN<n.toN->q≠n := fun q hq => K4.ne_of_lt (by omega)
  have ls := D1.ls
  refine ⟨_, n1, n, tv1, rfl, by omega, by omega, fun q hq hqf => ?_, ?_, A6 _ _ _, D1.ot.frame (Nat.le_refl _) fun p hp hq => ⟨A7 _ _ (hq n List.mem_cons_self).symm, hq⟩, Nat.le_refl _, ls, fun q hq => (Ao (by omega) _ _).trans (D1.fr q hq)⟩
  · rw [A7 _ _ (ne q hq).symm]; exact D1.fo q hq hqf
  · rw [A7 _ _ (ne f lf).symm]; exact D1.hf
theorem may_A {m:Nat} {h:Heap} {n:K4}:CE tab (m+1) ⟨.d0, .d3, .d3⟩ [.str 1 65] h n = .rv (.bool true) h n := by kernel_rfl
theorem may_N {m:Nat} {h:Heap} {n:K4}:CE tab (m+1) ⟨.d0, .d3, .d3⟩ [.str 3 5719374] h n = .rv (.bool true) h n := by kernel_rfl
theorem size_none {m:Nat} {f d:K4} {h:Heap} {n:K4} {a c room rd calls fl:Nat} {lw w:V} (hf:Ag f h=some (.c (.l (fsC room rd calls fl (.map d) lw w)) false none)) (hd:Ag d h=some (.m [] [] 0)) :
    CE tab (m+1) ⟨.d0, .d2, .d5⟩ [.ptr f 0, .str a c] h n = .rv (.int .i64 18446744073709551615) h n := by
  rw [call2_at, show DB ⟨.d0, .d2, .d5⟩ tab=some x37 from rfl, x37]
  simp (disch := omega) only [g0,g1,g2,g3,g4,g5,g6,g7,g8,g9,E1,DZ,DO,E0,DX,DM,DS,DW,DP,E4,w0,w1,w2,w3,w4,w5,w6,w7,w8,w9,E2,DT,DR,DY,DU,DN,DV,E3,DQ,E7,C5,CY,D6,Bq,BJ,Bs,CZ,CX,CS,D8,Cr,Cl,C7,BY,Cp,C4,C3,Cj,Cw,BP,C1,D5,Br,Cv,C6,Ch,Ce,Cd,B4,AN,AL,AM,AB,AF,As,AU,Ay,Bh,BF,CR,Cn,Bu,BA,Ct,AW,BC,AY,BI,Bb,B3,BV,Bl,Ci,Bw,Be,B7,B6,cond_true,cond_false,List.set_cons_zero,List.set_cons_succ,List.length_cons,List.length_nil,A6,Ak,Aa,Mk,Nat.reduceAdd,Nat.reduceSub,Nat.reduceMul,Nat.reduceMod,Nat.reduceDiv,decide_true,decide_false,Nat.zero_add,beq_self_eq_true,Bool.not_true,Bool.not_false,bne_self_eq_false,CO,BU,BX,BW,C8,BR,AO,AV,Nat.mod_eq_of_lt,decide_eq_true,decide_eq_false,Q0,U,D9,BZ,D7,Cy,Cq,AH,Aj,Al,AE,Av,AA,AD,Aw,Az,Ar,Cg,Bm,BH,Bj,AZ,BK,Bn,Bt,B1,BT,Cx,  Bp,CV,CW,Aq,Af,Ao,AS,Cf,CA,B8,Ac,A8,Ad,Ax,Ai,Am,Ae,AX,CP,Ba,Ab,Bv,BB,Bf,By,C9,CQ,BN,AR,Bd,Co,B9,Bc,List.nil_append,List.cons_append,List.take_zero,List.drop_zero,List.drop_succ_cons,List.take_succ_cons,List.drop_nil,List.append_nil,Bool.and_true,Bool.true_and,Bool.and_false,Bool.false_and,Bool.or_true,Bool.true_or,Bool.or_false,Bool.false_or,BQ,Cz,C0,Ck,D4,Cu, Cc,Bo,Cm,B5,CT,C2,Bk,Bz,BG,Nat.one_mul,Nat.mul_one,Bi,Bx,BE,AP,BO,BS,Cb,Ca,AT,Au,BD,AQ,not_true_eq_false,not_false_eq_true,en1,hf,hd]
theorem bA0 (κ:V->R):EX (.str 1 65) (.str 0 0) κ=κ (.bool false) := by kernel_rfl
theorem bAN (κ:V->R):EL (.str 1 65) (.str 3 5719374) κ=κ (.bool true) := by kernel_rfl
/-- A second record behind the first one. -/
theorem app_3 {p:K4} {h:Heap} {a b c d e f:V} (hp:Ag p h=some (.c (.l [a, b, c]) false none)) {n:K4} (hn:n.toN<65000) (κ:KV) :
    EQ 3 40 (.sl p 0 1 1 false 3) 1 (.l [d, e, f]) h n κ=κ (.sl n 0 2 2 false 3) (B0 n (B0 p h (some (.c (.l [a, b, c]) true none))) (some (.c (.l [a, b, c, d, e, f]) false (some p)))) n.up := by
  show NN p h (fun cs sup prev => Ah (Nat.mul 1 3) fun l => Dt cs 0 l fun a => TO a (.l [d, e, f]) fun z => br sup (.fail "") (Ah (Nat.add 0 l) fun j => Dt cs 0 j fun old => JO prev h fun h => H6 p h (some (.c old true none)) fun h => Gm h n (.c z false (some p)) fun h' n' => κ (.sl n 0 2 2 false 3) h' n'))=_
  rw [Gk, KA hp, A9]
  show br false (.fail "") (Ah (Nat.add 0 (Nat.mul 1 3)) fun j => Dt (.l [a, b, c]) 0 j fun old => JO none h fun h => H6 p h (some (.c old true none)) fun h => Gm h n (.c (.l [a, b, c, d, e, f]) false (some p)) fun h' n' => κ (.sl n 0 2 2 false 3) h' n')=_
  rw [CB, A9]
  show JO none h (fun h => H6 p h (some (.c (.l [a, b, c]) true none)) fun h => Gm h n (.c (.l [a, b, c, d, e, f]) false (some p)) fun h' n' => κ (.sl n 0 2 2 false 3) h' n')=_
  rw [IG, Dm, BN (by omega)]; rfl
theorem do_ren {m:Nat} {d x:K4} {h:Heap} {n:K4} {b k:Nat} (hd:Ag d h=some (.m [(.str 3 5719374, .ptr x 0)] [b] k)) (hdn:d.toN<n.toN) (hn:n.toN<60000) :
    CE tab (m+1) ⟨.d0, .d3, .d9⟩ [.map d, .agg [.str 3 5719374, .str 1 65, .nil .ptr]] h n = .rv (.tup []) (B0 d (B0 n h (some (.c (.l [.str 3 5719374, .str 1 65, .nil .ptr]) false none))) (some (.m [(.str 1 65, .ptr x 0)] [k] (k+1)))) n.up := by
  rw [call2_at, show DB ⟨.d0, .d3, .d9⟩ tab=some x57 from rfl, x57]
  simp (config := {maxSteps := 3000000}) (disch := omega) only [g0,g1,g2,g3,g4,g5,g6,g7,g8,g9,E1,DZ,DO,E0,DX,DM,DS,DW,DP,E4,w0,w1,w2,w3,w4,w5,w6,w7,w8,w9,E2,DT,DR,DY,DU,DN,DV,E3,DQ,E7,C5,CY,D6,Bq,BJ,Bs,CZ,CX,CS,D8,Cr,Cl,C7,BY,Cp,C4,C3,Cj,Cw,BP,C1,D5,Br,Cv,C6,Ch,Ce,Cd,B4,AN,AL,AM,AB,AF,As,AU,Ay,Bh,BF,CR,Cn,Bu,BA,Ct,AW,BC,AY,BI,Bb,B3,BV,Bl,Ci,Bw,Be,B7,B6,cond_true,cond_false,List.set_cons_zero,List.set_cons_succ,List.length_cons,List.length_nil,A6,Ak,Aa,Mk,Nat.reduceAdd,Nat.reduceSub,Nat.reduceMul,Nat.reduceMod,Nat.reduceDiv,decide_true,decide_false,Nat.zero_add,beq_self_eq_true,Bool.not_true,Bool.not_false,bne_self_eq_false,CO,BU,BX,BW,C8,BR,AO,AV,Nat.mod_eq_of_lt,decide_eq_true,decide_eq_false,Q0,U,D9,BZ,D7,Cy,Cq,AH,Aj,Al,AE,Av,AA,AD,Aw,Az,Ar,Cg,Bm,BH,Bj,AZ,BK,Bn,Bt,B1,BT,Cx,  Bp,CV,CW,Aq,Af,Ao,AS,Cf,CA,B8,Ac,A8,Ad,Ax,Ai,Am,Ae,AX,CP,Ba,Ab,Bv,BB,Bf,By,C9,CQ,BN,AR,Bd,Co,B9,Bc,List.nil_append,List.cons_append,List.take_zero,List.drop_zero,List.drop_succ_cons,List.take_succ_cons,List.drop_nil,List.append_nil,Bool.and_true,Bool.true_and,Bool.and_false,Bool.false_and,Bool.or_true,Bool.true_or,Bool.or_false,Bool.false_or,BQ,Cz,C0,Ck,D4,Cu, Cc,Bo,Cm,B5,CT,C2,Bk,Bz,BG,Nat.one_mul,Nat.mul_one,Bi,Bx,BE,AP,BO,BS,Cb,Ca,AT,Au,BD,AQ,not_true_eq_false,not_false_eq_true,en1,hd,bA0,bAN]
theorem change_ren {m:Nat} {f d x pw:K4} {h:Heap} {n:K4} {b k room rd calls fl:Nat} {l r1 r2 r3:V} (hf:Ag f h=some (.c (.l (fsC room rd calls fl (.map d) l (.sl pw 0 1 1 false 3))) false none)) (hd:Ag d h=some (.m [(.str 3 5719374, .ptr x 0)] [b] k)) (hw:Ag pw h=some (.c (.l [r1, r2, r3]) false none)) (hfr:Dg h n)
    (hfn:f.toN<n.toN) (hdn:d.toN<n.toN) (ndf:d≠f) (hpn:pw.toN<n.toN) (npf:pw≠f) (npd:pw≠d) (hn:n.toN<58000) :
    ∃ h' n' wv, CE tab (m+2) ⟨.d0, .d3, .d4⟩ [.ptr f 0, .agg [.str 3 5719374, .str 1 65, .nil .ptr]] h n = .rv (.int .i64 0) h' n'∧n.toN≤n'.toN∧n'.toN≤n.toN+60∧Dg h' n'∧(∀ q:K4, q.toN<n.toN->q≠f->q≠d->q≠pw->Ag q h'=Ag q h) ∧
      Ag d h'=some (.m [(.str 1 65, .ptr x 0)] [k] (k+1))∧Ag f h'=some (.c (.l (fsC room rd calls fl (.map d) l wv)) false none) := by
  have u1 := K4.up_toN (p := n) (by omega)
  have u2 := K4.up_toN (p := n.up) (by omega)
  have v1 := K4.up16_toN (p := n.up.up) (by omega)
  have v2 := K4.up16_toN (p := n.up.up.up16) (by omega)
  have v3 := K4.pl_toN (p := n.up.up) (by omega) .d0
  have u3 := K4.up_toN (p := n.up.up.up16.up16) (by omega)
  have d0:D.d0.toN=0 := rfl
  rw [d0] at v3
  generalize hR:CE tab (m+2) ⟨.d0, .d3, .d4⟩ [.ptr f 0, .agg [.str 3 5719374, .str 1 65, .nil .ptr]] h n=R0
  rw [call2_at, show DB ⟨.d0, .d3, .d4⟩ tab=some x52 from rfl, x52] at hR
  simp (disch := omega) only [g0,g1,g2,g3,g4,g5,g6,g7,g8,g9,E1,DZ,DO,E0,DX,DM,DS,DW,DP,E4,w0,w1,w2,w3,w4,w5,w6,w7,w8,w9,E2,DT,DR,DY,DU,DN,DV,E3,DQ,E7,C5,CY,D6,Bq,BJ,Bs,CZ,CX,CS,D8,Cr,Cl,C7,BY,Cp,C4,C3,Cj,Cw,BP,C1,D5,Br,Cv,C6,Ch,Ce,Cd,B4,AN,AL,AM,AB,AF,As,AU,Ay,Bh,BF,CR,Cn,Bu,BA,Ct,AW,BC,AY,BI,Bb,B3,BV,Bl,Ci,Bw,Be,B7,B6,cond_true,cond_false,List.set_cons_zero,List.set_cons_succ,List.length_cons,List.length_nil,A6,Ak,Aa,Mk,Nat.reduceAdd,Nat.reduceSub,Nat.reduceMul,Nat.reduceMod,Nat.reduceDiv,decide_true,decide_false,Nat.zero_add,beq_self_eq_true,Bool.not_true,Bool.not_false,bne_self_eq_false,CO,BU,BX,BW,C8,BR,AO,AV,Nat.mod_eq_of_lt,decide_eq_true,decide_eq_false,Q0,U,D9,BZ,D7,Cy,Cq,AH,Aj,Al,AE,Av,AA,AD,Aw,Az,Ar,Cg,Bm,BH,Bj,AZ,BK,Bn,Bt,B1,BT,Cx,  Bp,CV,CW,Aq,Af,Ao,AS,Cf,CA,B8,Ac,A8,Ad,Ax,Ai,Am,Ae,AX,CP,Ba,Ab,Bv,BB,Bf,By,C9,CQ,BN,AR,Bd,Co,B9,Bc,List.nil_append,List.cons_append,List.take_zero,List.drop_zero,List.drop_succ_cons,List.take_succ_cons,List.drop_nil,List.append_nil,Bool.and_true,Bool.true_and,Bool.and_false,Bool.false_and,Bool.or_true,Bool.true_or,Bool.or_false,Bool.false_or,BQ,Cz,C0,Ck,D4,Cu, Cc,Bo,Cm,B5,CT,C2,Bk,Bz,BG,Nat.one_mul,Nat.mul_one,Bi,Bx,BE,AP,BO,BS,Cb,Ca,AT,Au,BD,AQ,not_true_eq_false,not_false_eq_true,en1,hf] at hR
  have e1 := do_ren (m := m) (d := d) (x := x) (h := B0 n h (some (.c (.l [.str 3 5719374, .str 1 65, .nil .ptr]) false none))) (n := n.up) (b := b) (k := k) ((Af hdn _ _).trans hd) (by omega) (by omega)
  rw [e1] at hR
  have h1:∀ y z:Option Ob, Ag (n.up.up.up16.pl .d0) (B0 d (B0 n.up (B0 n h y) z) (some (.m [(.str 1 65, .ptr x 0)] [k] (k+1))))=none := fun y z => by
    simp (disch := omega) only [Ao]; exact hfr _ (by omega)
  have hf1:∀ y z u:Option Ob, Ag f (B0 d (B0 n.up (B0 n h y) z) u)=some (.c (.l (fsC room rd calls fl (.map d) l (.sl pw 0 1 1 false 3))) false none) := fun y z u => by
    rw [A7 _ _ ndf]; simp (disch := omega) only [Af]; exact hf
  simp (disch := omega) only [g0,g1,g2,g3,g4,g5,g6,g7,g8,g9,E1,DZ,DO,E0,DX,DM,DS,DW,DP,E4,w0,w1,w2,w3,w4,w5,w6,w7,w8,w9,E2,DT,DR,DY,DU,DN,DV,E3,DQ,E7,C5,CY,D6,Bq,BJ,Bs,CZ,CX,CS,D8,Cr,Cl,C7,BY,Cp,C4,C3,Cj,Cw,BP,C1,D5,Br,Cv,C6,Ch,Ce,Cd,B4,AN,AL,AM,AB,AF,As,AU,Ay,Bh,BF,CR,Cn,Bu,BA,Ct,AW,BC,AY,BI,Bb,B3,BV,Bl,Ci,Bw,Be,B7,B6,cond_true,cond_false,List.set_cons_zero,List.set_cons_succ,List.length_cons,List.length_nil,A6,Ak,Aa,Mk,Nat.reduceAdd,Nat.reduceSub,Nat.reduceMul,Nat.reduceMod,Nat.reduceDiv,decide_true,decide_false,Nat.zero_add,beq_self_eq_true,Bool.not_true,Bool.not_false,bne_self_eq_false,CO,BU,BX,BW,C8,BR,AO,AV,Nat.mod_eq_of_lt,decide_eq_true,decide_eq_false,Q0,U,D9,BZ,D7,Cy,Cq,AH,Aj,Al,AE,Av,AA,AD,Aw,Az,Ar,Cg,Bm,BH,Bj,AZ,BK,Bn,Bt,B1,BT,Cx,  Bp,CV,CW,Aq,Af,Ao,AS,Cf,CA,B8,Ac,A8,Ad,Ax,Ai,Am,Ae,AX,CP,Ba,Ab,Bv,BB,Bf,By,C9,CQ,BN,AR,Bd,Co,B9,Bc,List.nil_append,List.cons_append,List.take_zero,List.drop_zero,List.drop_succ_cons,List.take_succ_cons,List.drop_nil,List.append_nil,Bool.and_true,Bool.true_and,Bool.and_false,Bool.false_and,Bool.or_true,Bool.true_or,Bool.or_false,Bool.false_or,BQ,Cz,C0,Ck,D4,Cu, Cc,Bo,Cm,B5,CT,C2,Bk,Bz,BG,Nat.one_mul,Nat.mul_one,Bi,Bx,BE,AP,BO,BS,Cb,Ca,AT,Au,BD,AQ,not_true_eq_false,not_false_eq_true,hf1,h1] at hR
  have hw1:∀ y z u v:Option Ob, Ag pw (B0 (n.up.up.up16.pl .d0) (B0 d (B0 n.up (B0 n h y) z) u) v)=some (.c (.l [r1, r2, r3]) false none) := fun y z u v => by
    rw [Af (by omega), A7 _ _ npd.symm]; simp (disch := omega) only [Af]; exact hw
  rw [app_3 (hw1 _ _ _ _) (by omega)] at hR
  have hf2:∀ y z u v w t:Option Ob, Ag f (B0 n.up.up.up16.up16 (B0 pw (B0 (n.up.up.up16.pl .d0) (B0 d (B0 n.up (B0 n h y) z) u) v) w) t)=some (.c (.l (fsC room rd calls fl (.map d) l (.sl pw 0 1 1 false 3))) false none) := fun y z u v w t => by
    rw [Af (by omega), A7 _ _ npf, Af (by omega)]; exact hf1 _ _ _
  simp (disch := omega) only [g0,g1,g2,g3,g4,g5,g6,g7,g8,g9,E1,DZ,DO,E0,DX,DM,DS,DW,DP,E4,w0,w1,w2,w3,w4,w5,w6,w7,w8,w9,E2,DT,DR,DY,DU,DN,DV,E3,DQ,E7,C5,CY,D6,Bq,BJ,Bs,CZ,CX,CS,D8,Cr,Cl,C7,BY,Cp,C4,C3,Cj,Cw,BP,C1,D5,Br,Cv,C6,Ch,Ce,Cd,B4,AN,AL,AM,AB,AF,As,AU,Ay,Bh,BF,CR,Cn,Bu,BA,Ct,AW,BC,AY,BI,Bb,B3,BV,Bl,Ci,Bw,Be,B7,B6,cond_true,cond_false,List.set_cons_zero,List.set_cons_succ,List.length_cons,List.length_nil,A6,Ak,Aa,Mk,Nat.reduceAdd,Nat.reduceSub,Nat.reduceMul,Nat.reduceMod,Nat.reduceDiv,decide_true,decide_false,Nat.zero_add,beq_self_eq_true,Bool.not_true,Bool.not_false,bne_self_eq_false,CO,BU,BX,BW,C8,BR,AO,AV,Nat.mod_eq_of_lt,decide_eq_true,decide_eq_false,Q0,U,D9,BZ,D7,Cy,Cq,AH,Aj,Al,AE,Av,AA,AD,Aw,Az,Ar,Cg,Bm,BH,Bj,AZ,BK,Bn,Bt,B1,BT,Cx,  Bp,CV,CW,Aq,Af,Ao,AS,Cf,CA,B8,Ac,A8,Ad,Ax,Ai,Am,Ae,AX,CP,Ba,Ab,Bv,BB,Bf,By,C9,CQ,BN,AR,Bd,Co,B9,Bc,List.nil_append,List.cons_append,List.take_zero,List.drop_zero,List.drop_succ_cons,List.take_succ_cons,List.drop_nil,List.append_nil,Bool.and_true,Bool.true_and,Bool.and_false,Bool.false_and,Bool.or_true,Bool.true_or,Bool.or_false,Bool.false_or,BQ,Cz,C0,Ck,D4,Cu, Cc,Bo,Cm,B5,CT,C2,Bk,Bz,BG,Nat.one_mul,Nat.mul_one,Bi,Bx,BE,AP,BO,BS,Cb,Ca,AT,Au,BD,AQ,not_true_eq_false,not_false_eq_true,hf2] at hR
  subst hR
  refine ⟨_, _, _, rfl, by omega, by omega, fun q hq => ?_, fun q hq h2 h3 h4 => ?_, ?_, A6 _ _ _⟩
  · simp (disch := omega) only [Ao]; exact hfr q (by omega)
  · rw [A7 _ _ (Ne.symm h2), Af (by omega), A7 _ _ (Ne.symm h4), Af (by omega), A7 _ _ (Ne.symm h3)]
    simp (disch := omega) only [Af]
  · rw [A7 _ _ ndf.symm, Af (by omega), A7 _ _ npd, Af (by omega), A6]
theorem rename_ok {m:Nat} {f d x pw:K4} {h:Heap} {n:K4} {b k room rd calls fl fl':Nat} {l r1 r2 r3:V} (hbg:Bg fl fl') (hc:calls<1000000) (hf:Ag f h=some (.c (.l (fsC room rd calls fl (.map d) l (.sl pw 0 1 1 false 3))) false none)) (hd:Ag d h=some (.m [(.str 3 5719374, .ptr x 0)] [b] k)) (hw:Ag pw h=some (.c (.l [r1, r2, r3]) false none)) (hfr:Dg h n)
    (hfn:f.toN<n.toN) (hdn:d.toN<n.toN) (ndf:d≠f) (hpn:pw.toN<n.toN) (npf:pw≠f) (npd:pw≠d) (hn:n.toN<58000) :
    ∃ h' n' wv, CE tab (m+4) ⟨.d0, .d4, .d0⟩ [.ptr f 0, .str 3 5719374, .str 1 65] h n = .rv (.int .i64 0) h' n'∧n.toN≤n'.toN∧n'.toN≤n.toN+60∧Dg h' n'∧(∀ q:K4, q.toN<n.toN->q≠f->q≠d->q≠pw->Ag q h'=Ag q h) ∧
      Ag d h'=some (.m [(.str 1 65, .ptr x 0)] [k] (k+1))∧Ag f h'=some (.c (.l (fsC room rd (calls+1) fl' (.map d) l wv)) false none) := by
  have hd1:Ag d (B0 f h (some (.c (.l (fsC room rd (calls+1) fl' (.map d) l (.sl pw 0 1 1 false 3))) false none)))=some (.m [(.str 3 5719374, .ptr x 0)] [b] k) := (A7 _ _ ndf.symm).trans hd
  obtain ⟨h', n', wv, e1, b1, b1', f1, o1, d1, y1⟩ := change_ren (m := m+1) (n := n) (A6 f h _) hd1 ((A7 _ _ npf.symm).trans hw) (fun q hq => (A7 _ _ (K4.ne_of_lt (by omega))).trans (hfr q hq)) hfn hdn ndf hpn npf npd hn
  generalize hR:CE tab (m+4) ⟨.d0, .d4, .d0⟩ [.ptr f 0, .str 3 5719374, .str 1 65] h n=R0
  rw [call2_at, show DB ⟨.d0, .d4, .d0⟩ tab=some x64 from rfl, x64] at hR
  simp (config := {maxSteps := 3000000}) (disch := omega) only [g0,g1,g2,g3,g4,g5,g6,g7,g8,g9,E1,DZ,DO,E0,DX,DM,DS,DW,DP,E4,w0,w1,w2,w3,w4,w5,w6,w7,w8,w9,E2,DT,DR,DY,DU,DN,DV,E3,DQ,E7,C5,CY,D6,Bq,BJ,Bs,CZ,CX,CS,D8,Cr,Cl,C7,BY,Cp,C4,C3,Cj,Cw,BP,C1,D5,Br,Cv,C6,Ch,Ce,Cd,B4,AN,AL,AM,AB,AF,As,AU,Ay,Bh,BF,CR,Cn,Bu,BA,Ct,AW,BC,AY,BI,Bb,B3,BV,Bl,Ci,Bw,Be,B7,B6,cond_true,cond_false,List.set_cons_zero,List.set_cons_succ,List.length_cons,List.length_nil,A6,Ak,Aa,Mk,Nat.reduceAdd,Nat.reduceSub,Nat.reduceMul,Nat.reduceMod,Nat.reduceDiv,decide_true,decide_false,Nat.zero_add,beq_self_eq_true,Bool.not_true,Bool.not_false,bne_self_eq_false,CO,BU,BX,BW,C8,BR,AO,AV,Nat.mod_eq_of_lt,decide_eq_true,decide_eq_false,Q0,U,D9,BZ,D7,Cy,Cq,AH,Aj,Al,AE,Av,AA,AD,Aw,Az,Ar,Cg,Bm,BH,Bj,AZ,BK,Bn,Bt,B1,BT,Cx,  Bp,CV,CW,Aq,Af,Ao,AS,Cf,CA,B8,Ac,A8,Ad,Ax,Ai,Am,Ae,AX,CP,Ba,Ab,Bv,BB,Bf,By,C9,CQ,BN,AR,Bd,Co,B9,Bc,List.nil_append,List.cons_append,List.take_zero,List.drop_zero,List.drop_succ_cons,List.take_succ_cons,List.drop_nil,List.append_nil,Bool.and_true,Bool.true_and,Bool.and_false,Bool.false_and,Bool.or_true,Bool.true_or,Bool.or_false,Bool.false_or,BQ,Cz,C0,Ck,D4,Cu, Cc,Bo,Cm,B5,CT,C2,Bk,Bz,BG,Nat.one_mul,Nat.mul_one,Bi,Bx,BE,AP,BO,BS,Cb,Ca,AT,Au,BD,AQ,not_true_eq_false,not_false_eq_true,en0] at hR
  rw [begin_bg hbg hf hc] at hR
  simp (config := {maxSteps := 3000000}) (disch := omega) only [g0,g1,g2,g3,g4,g5,g6,g7,g8,g9,E1,DZ,DO,E0,DX,DM,DS,DW,DP,E4,w0,w1,w2,w3,w4,w5,w6,w7,w8,w9,E2,DT,DR,DY,DU,DN,DV,E3,DQ,E7,C5,CY,D6,Bq,BJ,Bs,CZ,CX,CS,D8,Cr,Cl,C7,BY,Cp,C4,C3,Cj,Cw,BP,C1,D5,Br,Cv,C6,Ch,Ce,Cd,B4,AN,AL,AM,AB,AF,As,AU,Ay,Bh,BF,CR,Cn,Bu,BA,Ct,AW,BC,AY,BI,Bb,B3,BV,Bl,Ci,Bw,Be,B7,B6,cond_true,cond_false,List.set_cons_zero,List.set_cons_succ,List.length_cons,List.length_nil,A6,Ak,Aa,Mk,Nat.reduceAdd,Nat.reduceSub,Nat.reduceMul,Nat.reduceMod,Nat.reduceDiv,decide_true,decide_false,Nat.zero_add,beq_self_eq_true,Bool.not_true,Bool.not_false,bne_self_eq_false,CO,BU,BX,BW,C8,BR,AO,AV,Nat.mod_eq_of_lt,decide_eq_true,decide_eq_false,Q0,U,D9,BZ,D7,Cy,Cq,AH,Aj,Al,AE,Av,AA,AD,Aw,Az,Ar,Cg,Bm,BH,Bj,AZ,BK,Bn,Bt,B1,BT,Cx,  Bp,CV,CW,Aq,Af,Ao,AS,Cf,CA,B8,Ac,A8,Ad,Ax,Ai,Am,Ae,AX,CP,Ba,Ab,Bv,BB,Bf,By,C9,CQ,BN,AR,Bd,Co,B9,Bc,List.nil_append,List.cons_append,List.take_zero,List.drop_zero,List.drop_succ_cons,List.take_succ_cons,List.drop_nil,List.append_nil,Bool.and_true,Bool.true_and,Bool.and_false,Bool.false_and,Bool.or_true,Bool.true_or,Bool.or_false,Bool.false_or,BQ,Cz,C0,Ck,D4,Cu, Cc,Bo,Cm,B5,CT,C2,Bk,Bz,BG,Nat.one_mul,Nat.mul_one,Bi,Bx,BE,AP,BO,BS,Cb,Ca,AT,Au,BD,AQ,not_true_eq_false,not_false_eq_true,hd1] at hR
  rw [may_A (m := m+2)] at hR
  rw [show m+1+2=m+3 from rfl] at e1
  simp (config := {maxSteps := 3000000}) (disch := omega) only [g0,g1,g2,g3,g4,g5,g6,g7,g8,g9,E1,DZ,DO,E0,DX,DM,DS,DW,DP,E4,w0,w1,w2,w3,w4,w5,w6,w7,w8,w9,E2,DT,DR,DY,DU,DN,DV,E3,DQ,E7,C5,CY,D6,Bq,BJ,Bs,CZ,CX,CS,D8,Cr,Cl,C7,BY,Cp,C4,C3,Cj,Cw,BP,C1,D5,Br,Cv,C6,Ch,Ce,Cd,B4,AN,AL,AM,AB,AF,As,AU,Ay,Bh,BF,CR,Cn,Bu,BA,Ct,AW,BC,AY,BI,Bb,B3,BV,Bl,Ci,Bw,Be,B7,B6,cond_true,cond_false,List.set_cons_zero,List.set_cons_succ,List.length_cons,List.length_nil,A6,Ak,Aa,Mk,Nat.reduceAdd,Nat.reduceSub,Nat.reduceMul,Nat.reduceMod,Nat.reduceDiv,decide_true,decide_false,Nat.zero_add,beq_self_eq_true,Bool.not_true,Bool.not_false,bne_self_eq_false,CO,BU,BX,BW,C8,BR,AO,AV,Nat.mod_eq_of_lt,decide_eq_true,decide_eq_false,Q0,U,D9,BZ,D7,Cy,Cq,AH,Aj,Al,AE,Av,AA,AD,Aw,Az,Ar,Cg,Bm,BH,Bj,AZ,BK,Bn,Bt,B1,BT,Cx,  Bp,CV,CW,Aq,Af,Ao,AS,Cf,CA,B8,Ac,A8,Ad,Ax,Ai,Am,Ae,AX,CP,Ba,Ab,Bv,BB,Bf,By,C9,CQ,BN,AR,Bd,Co,B9,Bc,List.nil_append,List.cons_append,List.take_zero,List.drop_zero,List.drop_succ_cons,List.take_succ_cons,List.drop_nil,List.append_nil,Bool.and_true,Bool.true_and,Bool.and_false,Bool.false_and,Bool.or_true,Bool.true_or,Bool.or_false,Bool.false_or,BQ,Cz,C0,Ck,D4,Cu, Cc,Bo,Cm,B5,CT,C2,Bk,Bz,BG,Nat.one_mul,Nat.mul_one,Bi,Bx,BE,AP,BO,BS,Cb,Ca,AT,Au,BD,AQ,not_true_eq_false,not_false_eq_true,e1] at hR
  subst hR
  exact ⟨_, _, wv, rfl, b1, b1', f1, fun q hq h2 h3 h4 => (o1 q hq h2 h3 h4).trans (A7 _ _ (Ne.symm h2)), d1, y1⟩
theorem mks_z {n:K4} (hn:n.toN<65535) (h:Heap) (κ:KV):Ni 1 true [.int .u8 0] (.int .i64 8192) (.int .i64 8192) h n κ=κ (.sl n 0 8192 8192 true 1) (B0 n h (some (.c (cb (List.replicate 8192 0)) false none))) n.up := by
  rw [Y0 hn (Nat.le_refl _) (by decide) _ rfl .i64 .i64 (by decide) (by decide)]
  unfold cb
  rw [KU, List.length_replicate]
/-- What a new slots file holds. -/
noncomputable def imgL (l:List UInt8):List UInt8 := slotL 1 l++List.replicate (8192 - (16+l.length)) 0
theorem imgL_len {l:List UInt8} (hl:l.length≤4080):(imgL l).length=8192 := by rw [imgL, List.length_append, slotL_len, List.length_replicate]; omega
theorem screate_ok {m:Nat} {f d:K4} {h:Heap} {n:K4} {room rd calls:Nat} {l0:V} {v:V} {l:List UInt8}
    (hf:Ag f h=some (.c (.l (fsC room rd calls 18446744073709551615 (.map d) l0 (.nil .sl))) false none)) (hd:Ag d h=some (.m [] [] 0)) (hfr:Dg h n) (hfn:f.toN<n.toN) (hdf:d.toN<f.toN)
    (hv:FK v l h) (hvp:∀ p:K4, (∃ off cap ex, v = .sl p off l.length cap ex 1)->p.toN<n.toN∧p≠f∧p≠d) (hl:l.length≤4080) (hr1:8192≤room) (hr2:room≤4194304) (hc:calls<900000) (hn:n.toN<50000) :
    ∃ h' n' x dm pc lm sp cv sv tv, CE tab (m+12) ⟨.d0, .d2, .d0⟩ [.ptr f 0, .str 1 65, v] h n = .rv (.tup [.ptr sp 0, .int .i64 0]) h' n'∧n.toN≤n'.toN∧n'.toN≤n.toN+240 ∧
      SS h' n' f d x dm pc lm sp room rd (calls+5) 18446744073709551615 1 2 (imgL l) (imgL l) cv sv tv 0 1 1 l := by
  have u1 := K4.up_toN (p := n) (by omega)
  have hsl:(slotL 1 l).length=16+l.length := slotL_len _ _
  have el := hv.len (by omega)
  have hS := size_none (m := m+10) (n := n) (a := 1) (c := 65) hf hd
  generalize hA:B0 n h (some (.c (cb (List.replicate 8192 0)) false none))=A
  have aZ:Ag n A=some (.c (cb (List.replicate 8192 0)) false none) := by rw [←hA, A6]
  have aO:∀ q:K4, q.toN<n.toN->Ag q A=Ag q h := fun q hq => by rw [←hA]; exact Af hq _ _
  have aF:Dg A n.up := fun q hq => by rw [←hA]; exact (Ao (by omega) _ _).trans (hfr q (by omega))
  have hvA:FK v l A := hv.frame fun p hp => aO p (hvp p hp).1
  obtain ⟨c1, h1, n1, e1, o1, a1, a2, f1, r1⟩ := slot_ok (m := m+8) (turn := 1) (n := n.up) (by omega) hvA (fun p hp => by have := (hvp p hp).1; omega) (by omega) (by omega)
  have hn1:n.up.toN<n1.toN := by
    rcases o1 with ⟨_, e⟩ | ⟨p, ex, pr, _, _, q1, q2, _⟩
    · rw [e] at hsl; simp only [List.length_nil] at hsl; omega
    · omega
  have hcp := RR o1.src (by rw [hsl]; omega) (p := n) (off := 0) (len := 8192) (cap := 8192) (ex := true) (bs := List.replicate 8192 0) (pr := none) ((f1 n (by omega)).trans aZ) (by rw [hsl]; omega) (by rw [hsl, List.length_replicate]; omega) (by rw [hsl]; omega)
  have himg:(List.replicate 8192 (0:UInt8)).take 0++(slotL 1 l++(List.replicate 8192 (0:UInt8)).drop (0+(slotL 1 l).length))=imgL l := by
    rw [List.take_zero, List.nil_append, List.drop_replicate, hsl, Nat.zero_add]; rfl
  rw [himg] at hcp
  have il := imgL_len hl
  generalize hB:B0 n (HD none h1) (some (.c (cb (imgL l)) false none))=B at hcp
  have bZ:Ag n B=some (.c (cb (imgL l)) false none) := by rw [←hB, A6]
  have bO:∀ q:K4, q≠n->Ag q B=Ag q h1 := fun q hq => by rw [←hB]; exact A7 _ _ (Ne.symm hq)
  have bO2:∀ q:K4, q.toN<n.toN->Ag q B=Ag q h := fun q hq => (bO q (K4.ne_of_lt hq)).trans ((f1 q (by omega)).trans (aO q hq))
  have bF:Dg B n1 := fun q hq => (bO q (K4.ne_of_lt (by omega)).symm).trans (r1 aF q hq)
  -- NEW is N6, written, synced, renamed
  obtain ⟨h2, n2, e2, a3, a4, r2, f2, d2, u2, k2, x2, m2, pw, y2, pw1, pw2, w2'⟩ := create_ok (m := m+7) (n := n1) (a := 3) (c := 5719374) (.inl ⟨rfl, rfl⟩) (by omega) (fun h n => may_N (m := m+9)) ((bO2 f hfn).trans hf) ((bO2 d (by omega)).trans hd) bF (by omega) hdf (by omega)
  have z2 := (f2 n (by omega) (K4.ne_of_lt (by omega)).symm (K4.ne_of_lt (by omega)).symm).trans bZ
  obtain ⟨h3, n3, pc, e3, a5, a6, r3, f3, y3, m3, k3, k3', cv, x3, o3⟩ := write_app (m := m) (n := n2) (pc := n.up) (bs := []) (v := .sl n 0 8192 8192 true 1) (l := imgL l) (.inl ⟨rfl, rfl⟩) (by omega) y2 d2 (by omega) x2 m2 IK.nil (.inl ⟨rfl, rfl⟩) (.inr (.inr ⟨n, 0, 8192, true, imgL l, false, none, by rw [il], z2, by omega, by rw [List.drop_zero, List.take_length]⟩)) hr2 (by rw [il]; simp only [List.length_nil]; omega) (by omega) (by omega) (by omega) (K4.ne_of_lt hdf) (by omega) (K4.ne_of_lt (by omega)) (by omega) (K4.ne_of_lt (by omega)) (K4.ne_of_lt (by omega)) (by omega) (K4.ne_of_lt (by omega)).symm (K4.ne_of_lt (by omega)) (K4.ne_of_lt (by omega)) (by omega)
    (fun p hp => by obtain ⟨_, _, _, e⟩ := hp; obtain ⟨rfl, _⟩ := V.sl.inj e; exact ⟨by omega, (K4.ne_of_lt (by omega)).symm, K4.ne_of_lt (by omega), K4.ne_of_lt (by omega), K4.ne_of_lt (by omega)⟩)
  rw [List.nil_append] at o3
  have d3 := (f3 d (by omega) (K4.ne_of_lt hdf) (K4.ne_of_lt (by omega)) (K4.ne_of_lt (by omega)) (K4.ne_of_lt (by omega))).trans d2
  have w3' := (f3 pw pw2 (K4.ne_of_lt (by omega)).symm (K4.ne_of_lt (by omega)).symm (K4.ne_of_lt (by omega)).symm (K4.ne_of_lt (by omega)).symm).trans w2'
  obtain ⟨h4, n4, dm', sv, ps, e4, a7, a8, r4, f4, y4, x4', k4, k4', m4, o4, q4, q4', q5⟩ := sync_ok (m := m+8) (n := n3) (.inl ⟨rfl, rfl⟩) (by omega) y3 d3 x3 o3 (by rw [il]; omega) (by omega) (by omega) (K4.ne_of_lt hdf) (by omega) (K4.ne_of_lt (by omega)) (by omega) (K4.ne_of_lt (by omega)).symm (K4.ne_of_lt (by omega)).symm (by omega)
  have d4 := (f4 d (by omega) (K4.ne_of_lt hdf) (K4.ne_of_lt (by omega))).trans d3
  have w4' := (f4 pw (by omega) (K4.ne_of_lt (by omega)).symm (K4.ne_of_lt (by omega)).symm).trans w3'
  obtain ⟨h5, n5, wv, e5, a9, a10, r5, f5, d5, y5⟩ := rename_ok (m := m+7) (n := n4) (.inl ⟨rfl, rfl⟩) (by omega) y4 d4 w4' (r4 (r3 r2)) (by omega) (by omega) (K4.ne_of_lt hdf) (by omega) (K4.ne_of_lt (by omega)).symm (K4.ne_of_lt (by omega)).symm (by omega)
  obtain ⟨h6, e6, f6, r6, l6, y6⟩ := syncdir_ok (m := m+8) (n := n5) (.inl ⟨rfl, rfl⟩) (by omega) y5 d5 (by omega) hdf (by omega)
  have u5 := K4.up_toN (p := n5) (by omega)
  have k6:∀ q:K4, q.toN<n.toN->q≠f->q≠d->Ag q h6=Ag q h := fun q h1 h2 h3 => by
    rw [f6 q (by omega) h2, f5 q (by omega) h2 h3 (K4.ne_of_lt (by omega)), f4 q (by omega) h2 (K4.ne_of_lt (by omega)), f3 q (by omega) h2 (K4.ne_of_lt (by omega)) (K4.ne_of_lt (by omega)) (K4.ne_of_lt (by omega)), f2 q (by omega) h2 h3, bO2 q h1]
  obtain ⟨h7, n7, tv, e7, a11, a12, t7, f7, r7, w7'⟩ := clone_src (m := m+10) (n := n5.up) (hv.frame (h' := h6) fun p hp => by obtain ⟨q1, q2, q3⟩ := hvp p hp; exact k6 p q1 q2 q3) (fun p hp => by have := (hvp p hp).1; omega) (by omega) (by omega) [f, d, n1.up, dm', pc, n5] (fun q hq => by
    simp only [List.mem_cons,List.not_mem_nil,or_false] at hq
    rcases hq with rfl | rfl | rfl | rfl | rfl | rfl <;> omega)
  have u7 := K4.up_toN (p := n7) (by omega)
  have sP:∀ (i:Nat) (l:List V) (κ:List V->R), CI i tv l κ=El i l tv κ := by
    rcases w7' with rfl | ⟨_, _, _, rfl⟩
    · exact fun i l κ => B1 _ _ _ _
    · exact fun i l κ => BT _ _ _ _ _ _ _ _ _
  generalize hR:CE tab (m+12) ⟨.d0, .d2, .d0⟩ [.ptr f 0, .str 1 65, v] h n=R0
  rw [call2_at, show DB ⟨.d0, .d2, .d0⟩ tab=some x32 from rfl, x32] at hR
  rw [show m+10+1=m+11 from rfl] at hS e7
  rw [show m+8+3=m+11 from rfl] at e1 e4 e6
  rw [show m+7+4=m+11 from rfl] at e2 e5
  simp only [List.length_nil] at e3
  rw [show iL 1 = .int .u64 1 from rfl] at *
  simp (config := {maxSteps := 3000000}) (disch := omega) only [g0,g1,g2,g3,g4,g5,g6,g7,g8,g9,E1,DZ,DO,E0,DX,DM,DS,DW,DP,E4,w0,w1,w2,w3,w4,w5,w6,w7,w8,w9,E2,DT,DR,DY,DU,DN,DV,E3,DQ,E7,C5,CY,D6,Bq,BJ,Bs,CZ,CX,CS,D8,Cr,Cl,C7,BY,Cp,C4,C3,Cj,Cw,BP,C1,D5,Br,Cv,C6,Ch,Ce,Cd,B4,AN,AL,AM,AB,AF,As,AU,Ay,Bh,BF,CR,Cn,Bu,BA,Ct,AW,BC,AY,BI,Bb,B3,BV,Bl,Ci,Bw,Be,B7,B6,cond_true,cond_false,List.set_cons_zero,List.set_cons_succ,List.length_cons,List.length_nil,A6,Ak,Aa,Mk,Nat.reduceAdd,Nat.reduceSub,Nat.reduceMul,Nat.reduceMod,Nat.reduceDiv,decide_true,decide_false,Nat.zero_add,beq_self_eq_true,Bool.not_true,Bool.not_false,bne_self_eq_false,CO,BU,BX,BW,C8,BR,AO,AV,Nat.mod_eq_of_lt,decide_eq_true,decide_eq_false,Q0,U,D9,BZ,D7,Cy,Cq,AH,Aj,Al,AE,Av,AA,AD,Aw,Az,Ar,Cg,Bm,BH,Bj,AZ,BK,Bn,Bt,B1,BT,Cx,  Bp,CV,CW,Aq,Af,Ao,AS,Cf,CA,B8,Ac,A8,Ad,Ax,Ai,Am,Ae,AX,CP,Ba,Ab,Bv,BB,Bf,By,C9,CQ,BN,AR,Bd,Co,B9,Bc,List.nil_append,List.cons_append,List.take_zero,List.drop_zero,List.drop_succ_cons,List.take_succ_cons,List.drop_nil,List.append_nil,Bool.and_true,Bool.true_and,Bool.and_false,Bool.false_and,Bool.or_true,Bool.true_or,Bool.or_false,Bool.false_or,BQ,Cz,C0,Ck,D4,Cu, Cc,Bo,Cm,B5,CT,C2,Bk,Bz,BG,Nat.one_mul,Nat.mul_one,Bi,Bx,BE,AP,BO,BS,Cb,Ca,AT,Au,BD,AQ,not_true_eq_false,not_false_eq_true,en0,el,hS,mks_z,hA,e1,hcp,e2,e3,e4,e5,e6,e7,sP] at hR
  subst hR
  have fin:∀ q:K4, q.toN<n4.toN->q≠f->q≠d->q≠pw->Ag q (B0 n7 h7 (some (.c (.l (spC f tv 1 0 1)) false none)))=Ag q h4 := fun q h1 h2 h3 h4 => by
    rw [Af (by omega), f7 q (by omega), f6 q (by omega) h2, f5 q h1 h2 h3 h4]
  refine ⟨_, n7.up, n1.up, dm', pc, n5, n7, cv, sv, tv, rfl, by omega, by omega, ?_, ?_, by omega, ?_, ?_, ⟨[], [], 0, ?_, IK.nil⟩, ?_, ?_, A6 _ _ _, ?_, ?_, ?_, ?_⟩
  · rw [Af (by omega), f7 f (by omega)]; exact y6
  · rw [Af (by omega), f7 d (by omega), f6 d (by omega) (K4.ne_of_lt hdf)]; exact d5
  · rw [Af (by omega), f7 n5 (by omega)]; exact l6
  · rw [fin _ (by omega) (K4.ne_of_lt (by omega)).symm (K4.ne_of_lt (by omega)).symm (K4.ne_of_lt (by omega))]; exact x4'
  · rw [fin _ (by omega) (K4.ne_of_lt (by omega)).symm (K4.ne_of_lt (by omega)).symm (K4.ne_of_lt (by omega)).symm]; exact m4
  · exact o3.frame (by rw [fin _ (by omega) (K4.ne_of_lt (by omega)).symm (K4.ne_of_lt (by omega)).symm (K4.ne_of_lt (by omega)).symm, f4 pc (by omega) (K4.ne_of_lt (by omega)).symm (K4.ne_of_lt (by omega)).symm])
  · rcases o4 with o4 | ⟨ex, e, g⟩
    · exact .inl o4
    · rcases q5 with q5 | ⟨q5, q6⟩
      · rw [q5] at e; cases e
      · refine .inr ⟨ps, ex, e, (fin _ (by omega) (K4.ne_of_lt (by omega)).symm (K4.ne_of_lt (by omega)).symm (K4.ne_of_lt (by omega)).symm).trans g, by omega, fun q hq => ?_⟩
        simp only [List.mem_cons,List.not_mem_nil,or_false] at hq
        rcases hq with rfl | rfl | rfl | rfl | rfl | rfl | rfl
        · exact (K4.ne_of_lt (by omega)).symm
        · exact (K4.ne_of_lt (by omega)).symm
        · exact (K4.ne_of_lt (by omega)).symm
        · exact q4'
        · exact (K4.ne_of_lt (by omega)).symm
        · exact K4.ne_of_lt (by omega)
        · exact K4.ne_of_lt (by omega)
  · refine t7.frame (by omega) fun p hp hq => ⟨Af hp _ _, fun q hq2 => ?_⟩
    simp only [List.mem_cons,List.not_mem_nil,or_false] at hq2
    rcases hq2 with rfl | rfl | rfl | rfl | rfl | rfl | rfl
    · exact hq _ (by simp)
    · exact hq _ (by simp)
    · exact hq _ (by simp)
    · exact hq _ (by simp)
    · exact hq _ (by simp)
    · exact hq _ (by simp)
    · exact K4.ne_of_lt hp
  · exact fun q hq => (Ao (by omega) _ _).trans (r7 (r6 r5) q (by omega))
  · simp only [List.pairwise_cons,List.mem_cons,List.not_mem_nil,or_false,forall_eq_or_imp,forall_eq,List.Pairwise.nil,and_true,false_implies,implies_true]
    have lt:∀ {p q:K4}, p.toN<q.toN->p≠q := fun h => K4.ne_of_lt h
    exact ⟨⟨(lt hdf).symm, lt (by omega), lt (by omega), lt (by omega), lt (by omega), lt (by omega)⟩, ⟨lt (by omega), lt (by omega), lt (by omega), lt (by omega), lt (by omega)⟩, ⟨lt (by omega), lt (by omega), lt (by omega), lt (by omega)⟩, ⟨(lt (by omega)).symm, lt (by omega), lt (by omega)⟩, ⟨lt (by omega), lt (by omega)⟩, lt (by omega)⟩
  · intro q hq
    simp only [List.mem_cons,List.not_mem_nil,or_false] at hq
    rcases hq with rfl | rfl | rfl | rfl | rfl | rfl | rfl <;> omega
theorem save_f0 {m:Nat} {h:Heap} {n f d x dm pc lm sp:K4} {room rd calls b k cur turn nxt:Nat} {bs ys text l:List UInt8} {cv sv tv v:V} (D:SS h n f d x dm pc lm sp room rd calls 0 b k bs ys cv sv tv cur turn nxt text)
    (hv:FK v l h) (hvp:∀ p:K4, (∃ off cap ex, v = .sl p off l.length cap ex 1)->p.toN<n.toN ∧ ∀ q∈[f, d, x, dm, pc, lm, sp], p≠q) (hl:l.length≤4080) (hnx:nxt<1000000) (hcur:cur≤1) (hc:calls<900000) (hn:n.toN<56000) :
    ∃ h' n', CE tab (m+12) ⟨.d0, .d2, .d1⟩ [.ptr sp 0, v] h n = .rv (.int .i64 3) h' n'∧n.toN≤n'.toN∧n'.toN≤n.toN+80 ∧
      SS h' n' f d x dm pc lm sp room rd (calls+1) 18446744073709551615 b k bs ys cv sv tv cur turn (nxt+1) text := by
  have ⟨lf, ld, lx, lm', lp, ll, ls⟩:f.toN<n.toN∧d.toN<n.toN∧x.toN<n.toN∧dm.toN<n.toN∧pc.toN<n.toN∧lm.toN<n.toN∧sp.toN<n.toN := ⟨D.lt f (by simp), D.lt d (by simp), D.lt x (by simp), D.lt dm (by simp), D.lt pc (by simp), D.lt lm (by simp), D.lt sp (by simp)⟩
  have nd := D.nd
  simp only [List.pairwise_cons,List.mem_cons,List.not_mem_nil,or_false,forall_eq_or_imp,forall_eq,List.Pairwise.nil,and_true,false_implies,implies_true] at nd
  obtain ⟨⟨nfd, nfx, nfm, nfp, nfl, nfs⟩, ⟨ndx, ndm, ndp, ndl, nds⟩, ⟨nxm, nxp, nxl, nxs⟩, ⟨nmp, nml, nms⟩, ⟨npl, nps⟩, nls⟩ := nd
  obtain ⟨es, ds, dk, hm, ik⟩ := D.hm
  -- the counter
  generalize hA:B0 sp h (some (.c (.l (spC f tv turn cur (nxt+1))) false none))=A
  have aS:Ag sp A=some (.c (.l (spC f tv turn cur (nxt+1))) false none) := by rw [←hA, A6]
  have aO:∀ q:K4, q≠sp->Ag q A=Ag q h := fun q hq => by rw [←hA]; exact A7 _ _ (Ne.symm hq)
  have aF:Dg A n := fun q hq => (aO q (K4.ne_of_lt (by omega)).symm).trans (D.fr q hq)
  have hvA:FK v l A := hv.frame fun p hp => aO p ((hvp p hp).2 sp (by simp))
  -- the slot's bytes
  obtain ⟨c1, h1, n1, e1, o1, a1, a2, f1, r1⟩ := slot_ok (m := m+8) (turn := nxt+1) (n := n) (by omega) hvA (fun p hp => (hvp p hp).1) (by omega) (by omega)
  have hsl:(slotL (nxt+1) l).length=16+l.length := slotL_len _ _
  have hc1:∀ p:K4, (∃ off cap ex, c1 = .sl p off (slotL (nxt+1) l).length cap ex 1)->n.toN≤p.toN∧p.toN<n1.toN := by
    rintro p ⟨off, cap, ex, e⟩
    rcases o1 with ⟨h, _⟩ | ⟨p', ex', pr, h, _, q1, q2, _⟩
    · rw [h] at e; cases e
    · rw [h] at e; cases e; exact ⟨q1, q2⟩
  have s1 := (f1 sp ls).trans aS
  have e2 := write_fail (m := m+9) (f := f) (n := n1) (nm := .str 1 65) (ov := .int .i64 ((1 - cur)*4096)) (v := c1) (by omega) ((f1 f lf).trans ((aO f nfs).trans D.hf))
  have el := hv.len (by omega)
  have hmul:((1 - cur)*4096) % 18446744073709551616=(1 - cur)*4096 := Nat.mod_eq_of_lt (by omega)
  generalize hR:CE tab (m+12) ⟨.d0, .d2, .d1⟩ [.ptr sp 0, v] h n=R0
  rw [call2_at, show DB ⟨.d0, .d2, .d1⟩ tab=some x33 from rfl, x33] at hR
  rw [show m+8+3=m+11 from rfl] at e1
  rw [show m+9+2=m+11 from rfl] at e2
  simp (config := {maxSteps := 3000000}) (disch := omega) only [g0,g1,g2,g3,g4,g5,g6,g7,g8,g9,E1,DZ,DO,E0,DX,DM,DS,DW,DP,E4,w0,w1,w2,w3,w4,w5,w6,w7,w8,w9,E2,DT,DR,DY,DU,DN,DV,E3,DQ,E7,C5,CY,D6,Bq,BJ,Bs,CZ,CX,CS,D8,Cr,Cl,C7,BY,Cp,C4,C3,Cj,Cw,BP,C1,D5,Br,Cv,C6,Ch,Ce,Cd,B4,AN,AL,AM,AB,AF,As,AU,Ay,Bh,BF,CR,Cn,Bu,BA,Ct,AW,BC,AY,BI,Bb,B3,BV,Bl,Ci,Bw,Be,B7,B6,cond_true,cond_false,List.set_cons_zero,List.set_cons_succ,List.length_cons,List.length_nil,A6,Ak,Aa,Mk,Nat.reduceAdd,Nat.reduceSub,Nat.reduceMul,Nat.reduceMod,Nat.reduceDiv,decide_true,decide_false,Nat.zero_add,beq_self_eq_true,Bool.not_true,Bool.not_false,bne_self_eq_false,CO,BU,BX,BW,C8,BR,AO,AV,Nat.mod_eq_of_lt,decide_eq_true,decide_eq_false,Q0,U,D9,BZ,D7,Cy,Cq,AH,Aj,Al,AE,Av,AA,AD,Aw,Az,Ar,Cg,Bm,BH,Bj,AZ,BK,Bn,Bt,B1,BT,Cx,  Bp,CV,CW,Aq,Af,Ao,AS,Cf,CA,B8,Ac,A8,Ad,Ax,Ai,Am,Ae,AX,CP,Ba,Ab,Bv,BB,Bf,By,C9,CQ,BN,AR,Bd,Co,B9,Bc,List.nil_append,List.cons_append,List.take_zero,List.drop_zero,List.drop_succ_cons,List.take_succ_cons,List.drop_nil,List.append_nil,Bool.and_true,Bool.true_and,Bool.and_false,Bool.false_and,Bool.or_true,Bool.true_or,Bool.or_false,Bool.false_or,BQ,Cz,C0,Ck,D4,Cu, Cc,Bo,Cm,B5,CT,C2,Bk,Bz,BG,Nat.one_mul,Nat.mul_one,Bi,Bx,BE,AP,BO,BS,Cb,Ca,AT,Au,BD,AQ,not_true_eq_false,not_false_eq_true,en1,el,D.hs,hA,hmul] at hR
  simp (config := {maxSteps := 3000000}) (disch := omega) only [g0,g1,g2,g3,g4,g5,g6,g7,g8,g9,E1,DZ,DO,E0,DX,DM,DS,DW,DP,E4,w0,w1,w2,w3,w4,w5,w6,w7,w8,w9,E2,DT,DR,DY,DU,DN,DV,E3,DQ,E7,C5,CY,D6,Bq,BJ,Bs,CZ,CX,CS,D8,Cr,Cl,C7,BY,Cp,C4,C3,Cj,Cw,BP,C1,D5,Br,Cv,C6,Ch,Ce,Cd,B4,AN,AL,AM,AB,AF,As,AU,Ay,Bh,BF,CR,Cn,Bu,BA,Ct,AW,BC,AY,BI,Bb,B3,BV,Bl,Ci,Bw,Be,B7,B6,cond_true,cond_false,List.set_cons_zero,List.set_cons_succ,List.length_cons,List.length_nil,A6,Ak,Aa,Mk,Nat.reduceAdd,Nat.reduceSub,Nat.reduceMul,Nat.reduceMod,Nat.reduceDiv,decide_true,decide_false,Nat.zero_add,beq_self_eq_true,Bool.not_true,Bool.not_false,bne_self_eq_false,CO,BU,BX,BW,C8,BR,AO,AV,Nat.mod_eq_of_lt,decide_eq_true,decide_eq_false,Q0,U,D9,BZ,D7,Cy,Cq,AH,Aj,Al,AE,Av,AA,AD,Aw,Az,Ar,Cg,Bm,BH,Bj,AZ,BK,Bn,Bt,B1,BT,Cx,  Bp,CV,CW,Aq,Af,Ao,AS,Cf,CA,B8,Ac,A8,Ad,Ax,Ai,Am,Ae,AX,CP,Ba,Ab,Bv,BB,Bf,By,C9,CQ,BN,AR,Bd,Co,B9,Bc,List.nil_append,List.cons_append,List.take_zero,List.drop_zero,List.drop_succ_cons,List.take_succ_cons,List.drop_nil,List.append_nil,Bool.and_true,Bool.true_and,Bool.and_false,Bool.false_and,Bool.or_true,Bool.true_or,Bool.or_false,Bool.false_or,BQ,Cz,C0,Ck,D4,Cu, Cc,Bo,Cm,B5,CT,C2,Bk,Bz,BG,Nat.one_mul,Nat.mul_one,Bi,Bx,BE,AP,BO,BS,Cb,Ca,AT,Au,BD,AQ,not_true_eq_false,not_false_eq_true,aS,s1,e1,e2,hmul,Se,same_str,LP] at hR
  subst hR
  have k:∀ q:K4, q.toN<n.toN->q≠f->q≠sp->Ag q (B0 f h1 (some (.c (.l (fsC room rd (calls+1) 18446744073709551615 (.map d) (.map lm) (.nil .sl))) false none)))=Ag q h := fun q h2 h3 h4 => by
    rw [A7 _ _ (Ne.symm h3), f1 q h2, aO q h4]
  refine ⟨_, n1, rfl, a1, by omega, A6 _ _ _, (k d ld nfd.symm nds).trans D.hd, D.hb, (k lm ll nfl.symm nls).trans D.hl, (k x lx nfx.symm nxs).trans D.hx, ⟨es, ds, dk, (k dm lm' nfm.symm nms).trans hm, ik⟩, D.own.frame (k pc lp nfp.symm nps), ?_, ?_, ?_, ?_, D.nd, fun q hq => Nat.lt_of_lt_of_le (D.lt q hq) a1⟩
  · exact D.oy.frame a1 fun p hp hq => ⟨k p hp (hq f (by simp)) (hq sp (by simp)), hq⟩
  · rw [A7 _ _ nfs]; exact s1
  · exact D.ot.frame a1 fun p hp hq => ⟨k p hp (hq f (by simp)) (hq sp (by simp)), hq⟩
  · exact fun q hq => (Ao (by omega) _ _).trans (r1 aF q hq)
theorem save_f1 {m:Nat} {h:Heap} {n f d x dm pc lm sp:K4} {room rd calls b k cur turn nxt:Nat} {bs ys text l:List UInt8} {cv sv tv v:V} (D:SS h n f d x dm pc lm sp room rd calls 1 b k bs ys cv sv tv cur turn nxt text)
    (hv:FK v l h) (hvp:∀ p:K4, (∃ off cap ex, v = .sl p off l.length cap ex 1)->p.toN<n.toN ∧ ∀ q∈[f, d, x, dm, pc, lm, sp], p≠q) (hl:l.length≤4080) (hnx:nxt<1000000) (hcur:cur≤1) (hbs:bs.length=8192)
    (hr1:8192≤room) (hr2:room≤4194304) (hc:calls<900000) (hn:n.toN<56000) :
    ∃ h' n', CE tab (m+12) ⟨.d0, .d2, .d1⟩ [.ptr sp 0, v] h n = .rv (.int .i64 3) h' n'∧n.toN≤n'.toN∧n'.toN≤n.toN+80 ∧
      SS h' n' f d x dm pc lm sp room rd (calls+2) 18446744073709551615 b k (bs.take ((1 - cur)*4096)++(slotL (nxt+1) l++bs.drop ((1 - cur)*4096+(slotL (nxt+1) l).length))) ys cv sv tv cur turn (nxt+1) text := by
  have ⟨lf, ld, lx, lm', lp, ll, ls⟩:f.toN<n.toN∧d.toN<n.toN∧x.toN<n.toN∧dm.toN<n.toN∧pc.toN<n.toN∧lm.toN<n.toN∧sp.toN<n.toN := ⟨D.lt f (by simp), D.lt d (by simp), D.lt x (by simp), D.lt dm (by simp), D.lt pc (by simp), D.lt lm (by simp), D.lt sp (by simp)⟩
  have nd := D.nd
  simp only [List.pairwise_cons,List.mem_cons,List.not_mem_nil,or_false,forall_eq_or_imp,forall_eq,List.Pairwise.nil,and_true,false_implies,implies_true] at nd
  obtain ⟨⟨nfd, nfx, nfm, nfp, nfl, nfs⟩, ⟨ndx, ndm, ndp, ndl, nds⟩, ⟨nxm, nxp, nxl, nxs⟩, ⟨nmp, nml, nms⟩, ⟨npl, nps⟩, nls⟩ := nd
  obtain ⟨es, ds, dk, hm, ik⟩ := D.hm
  -- the counter
  generalize hA:B0 sp h (some (.c (.l (spC f tv turn cur (nxt+1))) false none))=A
  have aS:Ag sp A=some (.c (.l (spC f tv turn cur (nxt+1))) false none) := by rw [←hA, A6]
  have aO:∀ q:K4, q≠sp->Ag q A=Ag q h := fun q hq => by rw [←hA]; exact A7 _ _ (Ne.symm hq)
  have aF:Dg A n := fun q hq => (aO q (K4.ne_of_lt (by omega)).symm).trans (D.fr q hq)
  have hvA:FK v l A := hv.frame fun p hp => aO p ((hvp p hp).2 sp (by simp))
  -- the slot's bytes
  obtain ⟨c1, h1, n1, e1, o1, a1, a2, f1, r1⟩ := slot_ok (m := m+8) (turn := nxt+1) (n := n) (by omega) hvA (fun p hp => (hvp p hp).1) (by omega) (by omega)
  have hsl:(slotL (nxt+1) l).length=16+l.length := slotL_len _ _
  have hc1:∀ p:K4, (∃ off cap ex, c1 = .sl p off (slotL (nxt+1) l).length cap ex 1)->n.toN≤p.toN∧p.toN<n1.toN := by
    rintro p ⟨off, cap, ex, e⟩
    rcases o1 with ⟨h, _⟩ | ⟨p', ex', pr, h, _, q1, q2, _⟩
    · rw [h] at e; cases e
    · rw [h] at e; cases e; exact ⟨q1, q2⟩
  -- it is written
  have W := write_in (m := m) (n := n1) (off := (1 - cur)*4096) (fl' := 0) (.inr ⟨Nat.le_refl _, by decide, rfl⟩) (by omega) ((f1 f lf).trans ((aO f nfs).trans D.hf)) ((f1 d ld).trans ((aO d nds).trans D.hd)) D.hb ((f1 x lx).trans ((aO x nxs).trans D.hx)) ((f1 dm lm').trans ((aO dm nms).trans hm)) ik
    (D.own.frame ((f1 pc lp).trans (aO pc nps))) o1.src hr2 (by omega) (by rw [hsl, hbs]; rcases (by omega:cur=0∨cur=1) with rfl | rfl <;> omega) (by omega) (by omega) nfd.symm (by omega) nfx (by omega) nxm.symm nfm (by omega) nfp.symm nxp.symm nmp.symm (by omega)
    (fun p hp => by obtain ⟨q1, q2⟩ := hc1 p hp; exact ⟨q2, (K4.ne_of_lt (by omega)).symm, (K4.ne_of_lt (by omega)).symm, (K4.ne_of_lt (by omega)).symm, (K4.ne_of_lt (by omega)).symm⟩)
  obtain ⟨h2, n2, e2, a3, a4, r2, f2, y2, m2, o2⟩ := W
  have x2 := (f2 x (by omega) nfx.symm nxm nxp).trans ((f1 x lx).trans ((aO x nxs).trans D.hx))
  have d2 := (f2 d (by omega) nfd.symm ndm ndp).trans ((f1 d ld).trans ((aO d nds).trans D.hd))
  have e3 := sync_fail (m := m+9) (f := f) (n := n2) (nm := .str 1 65) (by omega) y2
  have s1 := (f1 sp ls).trans aS
  have s2:Ag sp h2=some (.c (.l (spC f tv turn cur (nxt+1))) false none) := by rw [f2 sp (by omega) nfs.symm nms.symm nps.symm, f1 sp ls, aS]
  have el := hv.len (by omega)
  have hmul:((1 - cur)*4096) % 18446744073709551616=(1 - cur)*4096 := Nat.mod_eq_of_lt (by omega)
  generalize hR:CE tab (m+12) ⟨.d0, .d2, .d1⟩ [.ptr sp 0, v] h n=R0
  rw [call2_at, show DB ⟨.d0, .d2, .d1⟩ tab=some x33 from rfl, x33] at hR
  rw [show m+8+3=m+11 from rfl] at e1
  rw [show m+9+2=m+11 from rfl] at e3
  simp (config := {maxSteps := 3000000}) (disch := omega) only [g0,g1,g2,g3,g4,g5,g6,g7,g8,g9,E1,DZ,DO,E0,DX,DM,DS,DW,DP,E4,w0,w1,w2,w3,w4,w5,w6,w7,w8,w9,E2,DT,DR,DY,DU,DN,DV,E3,DQ,E7,C5,CY,D6,Bq,BJ,Bs,CZ,CX,CS,D8,Cr,Cl,C7,BY,Cp,C4,C3,Cj,Cw,BP,C1,D5,Br,Cv,C6,Ch,Ce,Cd,B4,AN,AL,AM,AB,AF,As,AU,Ay,Bh,BF,CR,Cn,Bu,BA,Ct,AW,BC,AY,BI,Bb,B3,BV,Bl,Ci,Bw,Be,B7,B6,cond_true,cond_false,List.set_cons_zero,List.set_cons_succ,List.length_cons,List.length_nil,A6,Ak,Aa,Mk,Nat.reduceAdd,Nat.reduceSub,Nat.reduceMul,Nat.reduceMod,Nat.reduceDiv,decide_true,decide_false,Nat.zero_add,beq_self_eq_true,Bool.not_true,Bool.not_false,bne_self_eq_false,CO,BU,BX,BW,C8,BR,AO,AV,Nat.mod_eq_of_lt,decide_eq_true,decide_eq_false,Q0,U,D9,BZ,D7,Cy,Cq,AH,Aj,Al,AE,Av,AA,AD,Aw,Az,Ar,Cg,Bm,BH,Bj,AZ,BK,Bn,Bt,B1,BT,Cx,  Bp,CV,CW,Aq,Af,Ao,AS,Cf,CA,B8,Ac,A8,Ad,Ax,Ai,Am,Ae,AX,CP,Ba,Ab,Bv,BB,Bf,By,C9,CQ,BN,AR,Bd,Co,B9,Bc,List.nil_append,List.cons_append,List.take_zero,List.drop_zero,List.drop_succ_cons,List.take_succ_cons,List.drop_nil,List.append_nil,Bool.and_true,Bool.true_and,Bool.and_false,Bool.false_and,Bool.or_true,Bool.true_or,Bool.or_false,Bool.false_or,BQ,Cz,C0,Ck,D4,Cu, Cc,Bo,Cm,B5,CT,C2,Bk,Bz,BG,Nat.one_mul,Nat.mul_one,Bi,Bx,BE,AP,BO,BS,Cb,Ca,AT,Au,BD,AQ,not_true_eq_false,not_false_eq_true,en1,el,D.hs,hA,hmul] at hR
  simp (config := {maxSteps := 3000000}) (disch := omega) only [g0,g1,g2,g3,g4,g5,g6,g7,g8,g9,E1,DZ,DO,E0,DX,DM,DS,DW,DP,E4,w0,w1,w2,w3,w4,w5,w6,w7,w8,w9,E2,DT,DR,DY,DU,DN,DV,E3,DQ,E7,C5,CY,D6,Bq,BJ,Bs,CZ,CX,CS,D8,Cr,Cl,C7,BY,Cp,C4,C3,Cj,Cw,BP,C1,D5,Br,Cv,C6,Ch,Ce,Cd,B4,AN,AL,AM,AB,AF,As,AU,Ay,Bh,BF,CR,Cn,Bu,BA,Ct,AW,BC,AY,BI,Bb,B3,BV,Bl,Ci,Bw,Be,B7,B6,cond_true,cond_false,List.set_cons_zero,List.set_cons_succ,List.length_cons,List.length_nil,A6,Ak,Aa,Mk,Nat.reduceAdd,Nat.reduceSub,Nat.reduceMul,Nat.reduceMod,Nat.reduceDiv,decide_true,decide_false,Nat.zero_add,beq_self_eq_true,Bool.not_true,Bool.not_false,bne_self_eq_false,CO,BU,BX,BW,C8,BR,AO,AV,Nat.mod_eq_of_lt,decide_eq_true,decide_eq_false,Q0,U,D9,BZ,D7,Cy,Cq,AH,Aj,Al,AE,Av,AA,AD,Aw,Az,Ar,Cg,Bm,BH,Bj,AZ,BK,Bn,Bt,B1,BT,Cx,  Bp,CV,CW,Aq,Af,Ao,AS,Cf,CA,B8,Ac,A8,Ad,Ax,Ai,Am,Ae,AX,CP,Ba,Ab,Bv,BB,Bf,By,C9,CQ,BN,AR,Bd,Co,B9,Bc,List.nil_append,List.cons_append,List.take_zero,List.drop_zero,List.drop_succ_cons,List.take_succ_cons,List.drop_nil,List.append_nil,Bool.and_true,Bool.true_and,Bool.and_false,Bool.false_and,Bool.or_true,Bool.true_or,Bool.or_false,Bool.false_or,BQ,Cz,C0,Ck,D4,Cu, Cc,Bo,Cm,B5,CT,C2,Bk,Bz,BG,Nat.one_mul,Nat.mul_one,Bi,Bx,BE,AP,BO,BS,Cb,Ca,AT,Au,BD,AQ,not_true_eq_false,not_false_eq_true,aS,s1,s2,e1,e2,e3,hmul,Se,same_str,LP] at hR
  subst hR
  have k:∀ q:K4, q.toN<n.toN->q≠f->q≠sp->q≠dm->q≠pc->Ag q (B0 f h2 (some (.c (.l (fsC room rd (calls+1+1) 18446744073709551615 (.map d) (.map lm) (.nil .sl))) false none)))=Ag q h := fun q h3 h4 h5 h6 h7 => by
    rw [A7 _ _ (Ne.symm h4), f2 q (by omega) h4 h6 h7, f1 q h3, aO q h5]
  obtain ⟨es2, ds2, dk2, m2', ik2⟩ := m2
  refine ⟨_, n2, rfl, by omega, by omega, A6 _ _ _, (k d ld nfd.symm nds ndm ndp).trans D.hd, D.hb, (k lm ll nfl.symm nls nml.symm npl.symm).trans D.hl, (k x lx nfx.symm nxs nxm nxp).trans D.hx, ⟨es2, ds2, dk2, (A7 _ _ nfm).trans m2', ik2⟩, o2.frame (A7 _ _ nfp), ?_, ?_, ?_, ?_, D.nd, fun q hq => by have := D.lt q hq; omega⟩
  · exact D.oy.frame (by omega) fun p hp hq => ⟨k p hp (hq f (by simp)) (hq sp (by simp)) (hq dm (by simp)) (hq pc (by simp)), hq⟩
  · rw [A7 _ _ nfs]; exact s2
  · exact D.ot.frame (by omega) fun p hp hq => ⟨k p hp (hq f (by simp)) (hq sp (by simp)) (hq dm (by simp)) (hq pc (by simp)), hq⟩
  · exact fun q hq => (Ao (by omega) _ _).trans (r2 (r1 aF) q hq)
/-- The disk shall fail, or shall not. -/
theorem fail_ok {m:Nat} {p:K4} {h:Heap} {n:K4} {room rd calls fl g:Nat} {d l w:V} (hp:Ag p h=some (.c (.l (fsC room rd calls fl d l w)) false none)) (hg:g<1000∨g=18446744073709551615) :
    CE tab (m+1) ⟨.d0, .d2, .d6⟩ [.ptr p 0, .int .i64 g] h n = .rv (.tup []) (B0 p h (some (.c (.l (fsC room rd calls g d l w)) false none))) n := by
  have hm:∀ κ, Ju (.int .i64 g) (.int .i64 18446744073709551615) κ=κ (.int .i64 g) := fun κ => by
    rcases hg with hg | rfl
    · rw [BP (by omega) (by omega), BX (by omega) (by omega)]; rfl
    · rw [BP (by omega) (by omega), BW (by omega) (by omega), decide_eq_false (by omega)]; rfl
  rw [call2_at, show DB ⟨.d0, .d2, .d6⟩ tab=some x38 from rfl, x38]
  simp (disch := omega) only [g0,g1,g2,g3,g4,g5,g6,g7,g8,g9,E1,DZ,DO,E0,DX,DM,DS,DW,DP,E4,w0,w1,w2,w3,w4,w5,w6,w7,w8,w9,E2,DT,DR,DY,DU,DN,DV,E3,DQ,E7,C5,CY,D6,Bq,BJ,Bs,CZ,CX,CS,D8,Cr,Cl,C7,BY,Cp,C4,C3,Cj,Cw,BP,C1,D5,Br,Cv,C6,Ch,Ce,Cd,B4,AN,AL,AM,AB,AF,As,AU,Ay,Bh,BF,CR,Cn,Bu,BA,Ct,AW,BC,AY,BI,Bb,B3,BV,Bl,Ci,Bw,Be,B7,B6,cond_true,cond_false,List.set_cons_zero,List.set_cons_succ,List.length_cons,List.length_nil,A6,Ak,Aa,Mk,Nat.reduceAdd,Nat.reduceSub,Nat.reduceMul,Nat.reduceMod,Nat.reduceDiv,decide_true,decide_false,Nat.zero_add,beq_self_eq_true,Bool.not_true,Bool.not_false,bne_self_eq_false,CO,BU,BX,BW,C8,BR,AO,AV,Nat.mod_eq_of_lt,decide_eq_true,decide_eq_false,Q0,U,D9,BZ,D7,Cy,Cq,AH,Aj,Al,AE,Av,AA,AD,Aw,Az,Ar,Cg,Bm,BH,Bj,AZ,BK,Bn,Bt,B1,BT,Cx,  Bp,CV,CW,Aq,Af,Ao,AS,Cf,CA,B8,Ac,A8,Ad,Ax,Ai,Am,Ae,AX,CP,Ba,Ab,Bv,BB,Bf,By,C9,CQ,BN,AR,Bd,Co,B9,Bc,List.nil_append,List.cons_append,List.take_zero,List.drop_zero,List.drop_succ_cons,List.take_succ_cons,List.drop_nil,List.append_nil,Bool.and_true,Bool.true_and,Bool.and_false,Bool.false_and,Bool.or_true,Bool.true_or,Bool.or_false,Bool.false_or,BQ,Cz,C0,Ck,D4,Cu, Cc,Bo,Cm,B5,CT,C2,Bk,Bz,BG,Nat.one_mul,Nat.mul_one,Bi,Bx,BE,AP,BO,BS,Cb,Ca,AT,Au,BD,AQ,not_true_eq_false,not_false_eq_true,en1,hp,hm]
def blk (bs:List UInt8) (j:Nat):List UInt8 := (bs.drop (j*4096)).take 4096
structure IV (bs:List UInt8) (cur turn nxt:Nat) (text:List UInt8):Prop where
  len:bs.length=8192
  c1:cur≤1
  slot:(bs.drop (cur*4096)).take (16+text.length)=slotL turn text
  tl:text.length≤4080
  ok:∀ j, j≤1->rdOK (blk bs j)=true->rdTurn (blk bs j)≤nxt
  t1:1≤turn
  tn:turn≤nxt
  nx:nxt<1000000
theorem blk_len {bs:List UInt8} {j:Nat} (h:bs.length=8192) (hj:j≤1):(blk bs j).length=4096 := Fm (by omega)
theorem blk_take {bs:List UInt8} {j m:Nat} (hm:m≤4096):(blk bs j).take m=(bs.drop (j*4096)).take m := by
  unfold blk; rw [List.take_take, Nat.min_eq_left hm]
theorem slot_blk {bs l:List UInt8} {j turn:Nat} (hb:bs.length=8192) (hj:j≤1) (hl:l.length≤4080) (ht:turn<18446744073709551616) (h:(bs.drop (j*4096)).take (16+l.length)=slotL turn l) :
    rdOK (blk bs j)=true∧rdTurn (blk bs j)=turn∧rdText (blk bs j)=l := by
  obtain ⟨h1, h2, h3, _⟩ := slot_reads (l := l) (B := blk bs j) ht (by omega) (by rw [blk_take (by omega)]; exact h) (by rw [blk_len hb hj]; omega)
  exact ⟨h1, h2, h3⟩
/-- A slot is written over the other one. -/
def ED (bs:List UInt8) (cur:Nat) (s:List UInt8):List UInt8 := bs.take ((1 - cur)*4096)++(s++bs.drop ((1 - cur)*4096+s.length))
theorem putS_len {bs s:List UInt8} {cur:Nat} (hb:bs.length=8192) (hc:cur≤1) (hs:s.length≤4096):(ED bs cur s).length=8192 := by
  unfold ED; rw [Mt (by rcases (by omega:cur=0∨cur=1) with rfl | rfl <;> omega)]; exact hb
theorem putS_new {bs s:List UInt8} {cur:Nat} (hb:bs.length=8192) (hc:cur≤1) (hs:s.length≤4096):((ED bs cur s).drop ((1 - cur)*4096)).take s.length=s := by
  have h1:(bs.take ((1 - cur)*4096)).length=(1 - cur)*4096 := by rw [List.length_take]; rcases (by omega:cur=0∨cur=1) with rfl | rfl <;> omega
  unfold ED
  rw [List.drop_append_of_le_length (by omega), List.drop_of_length_le (by omega), List.nil_append, List.take_append_of_le_length (Nat.le_refl _), List.take_length]
theorem putS_old {bs s:List UInt8} {cur:Nat} (hb:bs.length=8192) (hc:cur≤1) (hs:s.length≤4096) (m:Nat) (hm:m≤4096):((ED bs cur s).drop (cur*4096)).take m=(bs.drop (cur*4096)).take m := by
  rcases (by omega:cur=0∨cur=1) with rfl | rfl
  · unfold ED
    rw [show (1 - 0)*4096=4096 from rfl, Nat.zero_mul, List.drop_zero, List.drop_zero, List.take_append_of_le_length (by rw [List.length_take]; omega), List.take_take, Nat.min_eq_left hm]
  · unfold ED
    rw [show (1 - 1)*4096=0 from rfl, List.take_zero, List.nil_append, Nat.zero_add, List.drop_append, List.drop_of_length_le (l := s) (by omega), List.nil_append, List.drop_drop, show s.length+(1*4096 - s.length)=1*4096 by omega]
theorem IV.bump {bs text:List UInt8} {cur turn nxt:Nat} (I:IV bs cur turn nxt text) (h:nxt+1<1000000):IV bs cur turn (nxt+1) text :=
  ⟨I.len, I.c1, I.slot, I.tl, fun j hj hk => Nat.le_succ_of_le (I.ok j hj hk), I.t1, Nat.le_succ_of_le I.tn, h⟩
theorem IV.blk_new {bs text l:List UInt8} {cur turn nxt:Nat} (I:IV bs cur turn nxt text) (hl:l.length≤4080):((ED bs cur (slotL (nxt+1) l)).drop ((1 - cur)*4096)).take (16+l.length)=slotL (nxt+1) l := by
  have := putS_new (s := slotL (nxt+1) l) I.len I.c1 (by rw [slotL_len]; omega)
  rw [slotL_len] at this; exact this
theorem IV.blk_old {bs text l:List UInt8} {cur turn nxt:Nat} (I:IV bs cur turn nxt text) (hl:l.length≤4080):blk (ED bs cur (slotL (nxt+1) l)) cur=blk bs cur :=
  putS_old I.len I.c1 (by rw [slotL_len]; omega) 4096 (Nat.le_refl _)
theorem IV.oks {bs text l:List UInt8} {cur turn nxt:Nat} (I:IV bs cur turn nxt text) (hl:l.length≤4080) (j:Nat) (hj:j≤1) (h:rdOK (blk (ED bs cur (slotL (nxt+1) l)) j)=true):rdTurn (blk (ED bs cur (slotL (nxt+1) l)) j)≤nxt+1 := by
  have c := I.c1
  have n := I.nx
  by_cases hc:j=cur
  · subst hc; rw [I.blk_old hl] at h ⊢; exact Nat.le_succ_of_le (I.ok _ hj h)
  · obtain rfl:j=1 - cur := by omega
    exact Nat.le_of_eq (slot_blk (putS_len I.len I.c1 (by rw [slotL_len]; omega)) hj hl (by omega) (I.blk_new hl)).2.1
/-- A save that goes well; and what Open needs then. -/
theorem IV.saved {bs text l:List UInt8} {cur turn nxt:Nat} (I:IV bs cur turn nxt text) (hl:l.length≤4080) (h:nxt+1<1000000):IV (ED bs cur (slotL (nxt+1) l)) (1 - cur) (nxt+1) (nxt+1) l :=
  ⟨putS_len I.len I.c1 (by rw [slotL_len]; omega), by omega, I.blk_new hl, hl, fun j hj hk => I.oks hl j hj hk, by omega, Nat.le_refl _, h⟩
theorem IV.other {bs text l:List UInt8} {cur turn nxt:Nat} (I:IV bs cur turn nxt text) (hl:l.length≤4080):rdOK (blk (ED bs cur (slotL (nxt+1) l)) (1 - (1 - cur)))=true->rdTurn (blk (ED bs cur (slotL (nxt+1) l)) (1 - (1 - cur)))<nxt+1 := by
  have c := I.c1
  rw [show 1 - (1 - cur)=cur by omega, I.blk_old hl]
  exact fun h => Nat.lt_succ_of_le (I.ok cur c h)
/-- A save that fails behind its write. -/
theorem IV.half {bs text l:List UInt8} {cur turn nxt:Nat} (I:IV bs cur turn nxt text) (hl:l.length≤4080) (h:nxt+1<1000000):IV (ED bs cur (slotL (nxt+1) l)) cur turn (nxt+1) text := by
  have tl := I.tl
  refine ⟨putS_len I.len I.c1 (by rw [slotL_len]; omega), I.c1, ?_, I.tl, fun j hj hk => I.oks hl j hj hk, I.t1, Nat.le_succ_of_le I.tn, h⟩
  rw [putS_old I.len I.c1 (by rw [slotL_len]; omega) _ (by omega)]; exact I.slot
theorem numL_zero (m:Nat):numL (List.replicate m 0)=0 := by
  have h:∀ j, Ge j 0 0=0 := fun j => by
    induction j with
    | zero => rfl
    | succ j ih => exact ih
  unfold numL; rw [KU]; exact h _
theorem IV.first {l:List UInt8} (hl:l.length≤4080):IV (imgL l) 0 1 1 l := by
  have il := imgL_len hl
  have h0:((imgL l).drop (0*4096)).take (16+l.length)=slotL 1 l := by
    rw [Nat.zero_mul, List.drop_zero, imgL, List.take_append_of_le_length (by rw [slotL_len]; omega), List.take_of_length_le (by rw [slotL_len]; omega)]
  refine ⟨il, by omega, h0, hl, fun j hj hk => ?_, Nat.le_refl _, Nat.le_refl _, by omega⟩
  rcases (by omega:j=0∨j=1) with rfl | rfl
  · exact Nat.le_of_eq (slot_blk il (by omega) hl (by omega) h0).2.1
  · have hz:(blk (imgL l) 1).take 8=List.replicate 8 0 := by
      rw [blk_take (by omega), imgL, List.drop_append, List.drop_of_length_le (by rw [slotL_len]; omega), List.nil_append, List.drop_replicate, List.take_replicate, slotL_len]
      congr 1; omega
    rw [rdTurn, hz, numL_zero]; omega
def Fl (fl:Nat):Prop := fl=18446744073709551615∨fl<1000
theorem save_any {m:Nat} {h:Heap} {n f d x dm pc lm sp:K4} {rd calls fl b k cur turn nxt:Nat} {bs ys text l:List UInt8} {cv sv tv v:V} (D:SS h n f d x dm pc lm sp 100000 rd calls fl b k bs ys cv sv tv cur turn nxt text) (I:IV bs cur turn nxt text) (hfl:Fl fl)
    (hv:v=IY l∨(v = .nil .sl∧l=[])) (hl:l.length≤4080) (hnx:nxt+1<1000000) (hc:calls<900000) (hn:n.toN<56000) :
    ∃ h' n' dm' bs' ys' sv' tv' cur' turn' fl' calls' res text', CE tab (m+12) ⟨.d0, .d2, .d1⟩ [.ptr sp 0, v] h n = .rv (.int .i64 res) h' n'∧n.toN≤n'.toN∧n'.toN≤n.toN+80∧SS h' n' f d x dm' pc lm sp 100000 rd calls' fl' b k bs' ys' cv sv' tv' cur' turn' (nxt+1) text' ∧
      IV bs' cur' turn' (nxt+1) text'∧Fl fl'∧calls'≤calls+2∧(res=0∧text'=l∨res=3∧text'=text) := by
  have hs:FK v l h := by rcases hv with rfl | hv; exact .inl rfl; exact .inr (.inl hv)
  have hp:∀ p:K4, (∃ off cap ex, v = .sl p off l.length cap ex 1)->p.toN<n.toN ∧ ∀ q∈[f, d, x, dm, pc, lm, sp], p≠q := by
    rintro p ⟨a, b, c, e⟩
    rcases hv with rfl | ⟨rfl, _⟩ <;> cases e
  rcases (by unfold Fl at hfl; omega:fl=18446744073709551615∨fl=0∨fl=1∨(2≤fl∧fl<1000)) with rfl | rfl | rfl | ⟨h2, h3⟩
  · obtain ⟨h', n', dm', sv', tv', e, b1, b2, _, D', _⟩ := save_ok (m := m) D (.inl ⟨rfl, rfl⟩) (.inl ⟨rfl, rfl⟩) hs hp hl (by omega) I.c1 I.len (by omega) (by omega) hc hn
    exact ⟨h', n', dm', _, _, sv', tv', _, _, _, _, 0, l, e, b1, b2, D', I.saved hl hnx, .inl rfl, Nat.le_refl _, .inl ⟨rfl, rfl⟩⟩
  · obtain ⟨h', n', e, b1, b2, D'⟩ := save_f0 (m := m) D hs hp hl (by omega) I.c1 hc hn
    exact ⟨h', n', dm, _, _, sv, tv, _, _, _, _, 3, text, e, b1, b2, D', I.bump hnx, .inl rfl, by omega, .inr ⟨rfl, rfl⟩⟩
  · obtain ⟨h', n', e, b1, b2, D'⟩ := save_f1 (m := m) D hs hp hl (by omega) I.c1 I.len (by omega) (by omega) hc hn
    exact ⟨h', n', dm, _, _, sv, tv, _, _, _, _, 3, text, e, b1, b2, D', I.half hl hnx, .inl rfl, Nat.le_refl _, .inr ⟨rfl, rfl⟩⟩
  · obtain ⟨h', n', dm', sv', tv', e, b1, b2, _, D', _⟩ := save_ok (m := m) (fl1 := fl - 1) (fl2 := fl - 1 - 1) D (.inr ⟨by omega, by omega, rfl⟩) (.inr ⟨by omega, by omega, rfl⟩) hs hp hl (by omega) I.c1 I.len (by omega) (by omega) hc hn
    exact ⟨h', n', dm', _, _, sv', tv', _, _, _, _, 0, l, e, b1, b2, D', I.saved hl hnx, .inr (by omega), Nat.le_refl _, .inl ⟨rfl, rfl⟩⟩
/-- An amount told: what it leaves of four, at least -1. -/
theorem rem_max {r:Nat} (hr:r<18446744073709551616):∃ g, (∀ κ:V->R, Pp (.int .i64 r) (.int .i64 4) (fun zv => Ju (.int .i64 18446744073709551615) zv κ)=κ (.int .i64 g))∧(g<1000∨g=18446744073709551615) := by
  rcases Nat.lt_or_ge r 9223372036854775808 with h | h
  · refine ⟨r % 4, fun κ => ?_, .inl (by omega)⟩
    rw [C0 (k := .i64) h (show 4<Hk .i64 from by decide) (by decide), BP (by omega) (by omega), BU (by omega) (by omega)]; rfl
  · by_cases hz:(18446744073709551616 - r) % 4=0
    · refine ⟨0, fun κ => ?_, .inl (by omega)⟩
      rw [UX h (by omega) (by omega), WZ, if_pos hz, BP (by omega) (by omega), BU (by omega) (by omega)]; rfl
    · refine ⟨18446744073709551615, fun κ => ?_, .inr rfl⟩
      have h4:(18446744073709551616 - r) % 4<4 := Nat.mod_lt _ (by decide)
      rw [UX h (by omega) (by omega), WZ, if_neg hz, BP (by omega) (by omega), BW (by omega) (by omega), decide_eq_false (by omega)]; rfl
noncomputable def saB (c:Jn):S->Heap->K4->R := fun t h n=>g6 t fun zf=>g1 t fun zg=>DG zg fun zh=>DF zf zh fun zi=>gK zi zf h n fun zj h n=>gO zi h n (fun k=>DF zj (iI 15) k) fun zk h n=>DE zi zk (.bool false) fun zl=>Ed zl (CH 1 (Ei 1 zg zf fun zm=>Dc zm h fun zn=>B2 (c ⟨.d0,.d1,.d9⟩ [zn,(iI 100)] h n) fun zo h n=>g0 t fun zp=>DG zp fun zq=>DF zf zq fun zr=>Ep (Ed zr (g3 t fun zs=>Ei 1 zp zf fun zt=>Dc zt h fun zu=>Pp zu (iI 4) fun zv=>Ju (iI 18446744073709551615) zv fun zw=>B2 (c ⟨.d0,.d2,.d6⟩ [zs,zw] h n) fun zx h n=>w7 t zo fun t=>nR t h n) (w7 t zo fun t=>nR t h n)) fun t h n=>g4 t fun zy=>g7 t fun zz=>B2 (c ⟨.d0,.d2,.d1⟩ [zy,zz] h n) fun z10 h n=>EX z10 (iI 0) fun z11=>Ep (Ed z11 (Hj zz h fun z12=>w5 t z12 fun t=>nR t h n) (EL z10 (iI 3) fun z13=>Ed z13 (w2 t (.bool false) fun t=>rT t h n)<|nR t h n)) fun t h n=>g4 t fun z14=>B2 (c ⟨.d0,.d2,.d3⟩ [z14] h n) fun z15 h n=>Hj z15 h fun z16=>g5 t fun z17=>EL z16 z17 fun z18=>Ed z18 (w2 t (.bool false) fun t=>rT t h n)<|nR t h n) fun t h n=>g6 t fun z19=>Dv z19 (iI 1) fun z1a=>w6 t z1a fun t=>nR t h n)<|.ok (.exit 0) t h n
noncomputable def x6L:Ent := .code en1 (fun c t h n=>B2 (c ⟨.d0,.d1,.d15⟩ [] h n) fun z1 h n=>Gn z1 fun z2=>Ed z2 (w2 t (.bool false) fun t=>rT t h n)<|B2 (c ⟨.d0,.d1,.d6⟩ [(iI 100000)] h n) fun z3 h n=>CI 0 (iB 102) [(iB 0),(iB 0),(iB 0),(iB 0),(iB 0)] fun z4=>CI 1 (iB 105) z4 fun z5=>CI 2 (iB 114) z5 fun z6=>CI 3 (iB 115) z6 fun z7=>CI 4 (iB 116) z7 fun z8=>FF true 5 1 z8 h n fun z9 h n=>Jc z9 h fun za=>B2 (c ⟨.d0,.d2,.d0⟩ [z3,(.str 1 65),za] h n) fun zb h n=>Eo 0 zb fun zc=>Eo 1 zb fun zd=>EL zd (iI 0) fun ze=>Ed ze (w2 t (.bool false) fun t=>w3 t z3 fun t=>w4 t zc fun t=>rT t h n)<|CH 0 (w2 t (.bool false) fun t=>w3 t z3 fun t=>w4 t zc fun t=>w5 t (.str 5 500153084262) fun t=>w6 t (iI 0) fun t=>EJ (saB c) t h n) fun t h n=>g3 t fun z1b=>B2 (c ⟨.d0,.d2,.d6⟩ [z1b,(iI 18446744073709551615)] h n) fun z1c h n=>g4 t fun z1d=>CI 0 (iB 108) [(iB 0),(iB 0),(iB 0),(iB 0)] fun z1e=>CI 1 (iB 97) z1e fun z1f=>CI 2 (iB 115) z1f fun z1g=>CI 3 (iB 116) z1g fun z1h=>FF true 4 1 z1h h n fun z1i h n=>Jc z1i h fun z1j=>B2 (c ⟨.d0,.d2,.d1⟩ [z1d,z1j] h n) fun z1k h n=>EL z1k (iI 0) fun z1l=>Ed z1l (w2 t (.bool false) fun t=>rT t h n)<|B2 (c ⟨.d0,.d1,.d13⟩ [z1b,(iI 0),(.nil .sl),(iI 18446744073709551615)] h n) fun z1m h n=>B2 (c ⟨.d0,.d2,.d2⟩ [z1m,(.str 1 65)] h n) fun z1n h n=>Eo 0 z1n fun z1o=>Eo 1 z1n fun z1p=>EX z1p (iI 0) fun z1q=>gK z1q z1o h n fun z1r h n=>F8 true z1q h n (fun k=>B2 (c ⟨.d0,.d2,.d3⟩ [z1r] h n) k) fun z1s h n=>gO z1q h n (fun k=>Hj z1s h k) fun z1t h n=>gO z1q h n (fun k=>EX z1t (.str 4 1953718636) k) fun z1u h n=>DE z1q z1u (.bool false) fun z1v=>w2 t z1v fun t=>rT t h n) (fun t h n=>g2 t fun a0=>.rv a0 h n)
theorem x6_L:x6=x6L := rfl
def cutH (o:Option (List UInt8)):List UInt8 := (o.getD []).take 100
def cutW:Option (List UInt8)->V
  | none => .nil .sl
  | some l => IY (l.take 100)
theorem cutW_ok {m:Nat} {h:Heap} {n:K4} {o:Option (List UInt8)} (ho:∀ b, o=some b->b.length<9223372036854775808):CE tab (m+1) ⟨.d0, .d1, .d9⟩ [(PS o).v, .int .i64 100] h n = .rv (cutW o) h n := by
  cases o with
  | none => exact short_nil (by omega)
  | some l => exact short_rb (ho l rfl) (by omega)
theorem cutW_v (o:Option (List UInt8)):cutW o=IY (cutH o)∨(cutW o = .nil .sl∧cutH o=[]) := by
  cases o with
  | none => exact .inr ⟨rfl, rfl⟩
  | some l => exact .inl rfl
theorem cutH_len (o:Option (List UInt8)):(cutH o).length≤100 := by
  unfold cutH; rw [List.length_take]; omega
/-- The amounts: none, or told. -/
def FV (fv:V) (fs:List Nat):Prop := (fv = .nil .sl∧fs=[])∨fv = .oth (.rx (fs.map (RV.i .i64)) fs.length 1)
theorem SS.fail {h:Heap} {n f d x dm pc lm sp:K4} {room rd calls fl g b k cur turn nxt:Nat} {bs ys text:List UInt8} {cv sv tv:V} (D:SS h n f d x dm pc lm sp room rd calls fl b k bs ys cv sv tv cur turn nxt text) :
    SS (B0 f h (some (.c (.l (fsC room rd calls g (.map d) (.map lm) (.nil .sl))) false none))) n f d x dm pc lm sp room rd calls g b k bs ys cv sv tv cur turn nxt text := by
  have nd := D.nd
  simp only [List.pairwise_cons,List.mem_cons,List.not_mem_nil,or_false,forall_eq_or_imp,forall_eq,List.Pairwise.nil,and_true,false_implies,implies_true] at nd
  obtain ⟨⟨nfd, nfx, nfm, nfp, nfl, nfs⟩, _⟩ := nd
  have lf := D.lt f (by simp)
  have k:∀ q:K4, q≠f->∀ o, Ag q (B0 f h o)=Ag q h := fun q hq o => A7 _ _ (Ne.symm hq)
  obtain ⟨es, ds, dk, hm, ik⟩ := D.hm
  exact ⟨A6 _ _ _, (k d nfd.symm _).trans D.hd, D.hb, (k lm nfl.symm _).trans D.hl, (k x nfx.symm _).trans D.hx, ⟨es, ds, dk, (k dm nfm.symm _).trans hm, ik⟩, D.own.frame (k pc nfp.symm _), D.oy.frame (Nat.le_refl _) fun p hp hq => ⟨k p (hq f (by simp)) _, hq⟩, (k sp nfs.symm _).trans D.hs, D.ot.frame (Nat.le_refl _) fun p hp hq => ⟨k p (hq f (by simp)) _, hq⟩, fun q hq => (k q (K4.ne_of_lt (by omega)).symm _).trans (D.fr q hq), D.nd, D.lt⟩
/-- Reads of new memory alone change nothing. -/
theorem SS.more {h h':Heap} {n n' f d x dm pc lm sp:K4} {room rd calls fl b k cur turn nxt:Nat} {bs ys text:List UInt8} {cv sv tv:V} (D:SS h n f d x dm pc lm sp room rd calls fl b k bs ys cv sv tv cur turn nxt text) (hn:n.toN≤n'.toN) (e:∀ q:K4, q.toN<n.toN->Ag q h'=Ag q h) (fr:Dg h' n') :
    SS h' n' f d x dm pc lm sp room rd calls fl b k bs ys cv sv tv cur turn nxt text := by
  obtain ⟨es, ds, dk, hm, ik⟩ := D.hm
  have l := D.lt
  exact ⟨(e f (l f (by simp))).trans D.hf, (e d (l d (by simp))).trans D.hd, D.hb, (e lm (l lm (by simp))).trans D.hl, (e x (l x (by simp))).trans D.hx, ⟨es, ds, dk, (e dm (l dm (by simp))).trans hm, ik⟩, D.own.frame (e pc (l pc (by simp))), D.oy.frame hn fun p hp hq => ⟨e p hp, hq⟩, (e sp (l sp (by simp))).trans D.hs, D.ot.frame hn fun p hp hq => ⟨e p hp, hq⟩, fr, D.nd, fun q hq => Nat.lt_of_lt_of_le (l q hq) hn⟩
/-- Between two rounds. -/
def RS (h:Heap) (n f sp:K4) (now:List UInt8) (i:Nat):Prop := ∃ d x dm pc lm rd calls fl b k bs ys cv sv tv cur turn nxt, SS h n f d x dm pc lm sp 100000 rd calls fl b k bs ys cv sv tv cur turn nxt now∧IV bs cur turn nxt now∧Fl fl∧calls≤10+2*i∧nxt≤1+i∧n.toN≤5000+90*i
theorem saB_in {m:Nat} {ps:List (Option (List UInt8))} {fs:List Nat} {fv rv bv:V} {now:List UInt8} {i:Nat} {h:Heap} {n f sp:K4} (hps:ps.length<9223372036854775808) (hp2:∀ o∈ps, ∀ b, o=some b->b.length<9223372036854775808) (hfl:fs.length<9223372036854775808) (hf2:∀ r∈fs, r<18446744073709551616) (hfv:FV fv fs)
    (hi:i<ps.length) (hi2:i<15) (D:RS h n f sp now i) :
    ∃ h' n' now' bv', saB (CE tab (m+12)) (.mk (.mk fv (.oth (.rx (ps.map PS) ps.length 1)) rv (.ptr f 0)) (.mk (.ptr sp 0) (sb now) (.int .i64 i) bv) Q0 Q0 Q0 Q0 Q0 Q0) h n = .ok .nrm (.mk (.mk fv (.oth (.rx (ps.map PS) ps.length 1)) rv (.ptr f 0)) (.mk (.ptr sp 0) (sb now') (.int .i64 (i+1)) bv') Q0 Q0 Q0 Q0 Q0 Q0) h' n'∧RS h' n' f sp now' (i+1) := by
  obtain ⟨d, x, dm, pc, lm, rd, calls, fl, b, k, bs, ys, cv, sv, tv, cur, turn, nxt, S, I, F, c1, c2, c3⟩ := D
  have hcl := cutH_len ps[i]
  have hl:∀ κ:V->R, DG fv κ=κ (.int .i64 fs.length) := fun κ => by
    rcases hfv with ⟨rfl, rfl⟩ | rfl
    · rfl
    · exact AH hfl κ
  have hdr:(ps.map PS).drop i=PS (ps[i])::(ps.map PS).drop (i+1) := by rw [List.drop_eq_getElem_cons (by simpa using hi)]; simp
  have ec := cutW_ok (m := m+11) (h := h) (n := n) (hp2 _ (List.getElem_mem hi))
  rw [show m+11+1=m+12 from rfl] at ec
  -- what comes behind the amount
  have rest:∀ (h1:Heap) (fl1:Nat), SS h1 n f d x dm pc lm sp 100000 rd calls fl1 b k bs ys cv sv tv cur turn nxt now->Fl fl1 →
      ∃ h' n' now' res h2 n2 v3, CE tab (m+12) ⟨.d0, .d2, .d1⟩ [.ptr sp 0, cutW ps[i]] h1 n = .rv (.int .i64 res) h2 n2∧(res=0∧now'=cutH ps[i]∨res=3∧now'=now)∧CE tab (m+12) ⟨.d0, .d2, .d3⟩ [.ptr sp 0] h2 n2 = .rv v3 h' n'∧(∀ κ, Hj v3 h' κ=κ (sb now'))∧RS h' n' f sp now' (i+1) := by
    intro h1 fl1 S1 F1
    obtain ⟨h2, n2, dm', bs', ys', sv', tv', cur', turn', fl', calls', res, text', e, b1, b2, S2, I2, F2, c4, hres⟩ := save_any (m := m) S1 I F1 (cutW_v ps[i]) (by omega) (by omega) (by omega) (by omega)
    have tl := I2.tl
    obtain ⟨h3, n3, v3, e3, b3, b4, hv3, f3, r3⟩ := text_ok (m := m+10) (n := n2) S2.hs S2.ot (by omega) (by omega)
    exact ⟨h3, n3, text', res, h2, n2, v3, e, hres, e3, hv3, d, x, dm', pc, lm, rd, calls', fl', b, k, bs', ys', cv, sv', tv', cur', turn', nxt+1, S2.more b3 f3 (r3 S2.fr), I2, F2, by omega, by omega, by omega⟩
  have heq:∀ (a:List UInt8) (κ:V->R), EL (sb a) (sb a) κ=κ (.bool false) := fun a κ => by
    show br (G2 a.length (CJ a) a.length (CJ a)) (κ (.bool false)) (κ (.bool true))=_
    rw [Rw, decide_eq_true rfl]; rfl
  have h2:∀ h κ, Hj (cutW ps[i]) h κ=κ (sb (cutH ps[i])) := fun h κ => X8 (cutW_v _) κ
  by_cases hif:i<fs.length
  · have hgt:∃ r, r<18446744073709551616 ∧ ∀ κ:V->R, (Ei 1 fv (.int .i64 i) fun zt => Dc zt h κ)=κ (.int .i64 r) := by
      rcases hfv with ⟨_, rfl⟩ | rfl
      · cases hif
      · refine ⟨fs[i], hf2 _ (List.getElem_mem hif), fun κ => ?_⟩
        rw [Qp hif (by omega), List.drop_eq_getElem_cons (by simpa using hif), Qx]; simp [RV.v]
    obtain ⟨r, hr, hg⟩ := hgt
    obtain ⟨g, eg, hg2⟩ := rem_max hr
    have ef := fail_ok (m := m+11) (n := n) S.hf hg2
    rw [show m+11+1=m+12 from rfl] at ef
    obtain ⟨h', n', now', res, h3, n3, v3, e1, hres, e3, hv3, R'⟩ := rest _ g (S.fail (g := g)) (by unfold Fl; omega)
    refine ⟨h', n', now', cutW ps[i], ?_, R'⟩
    unfold saB
    rcases hres with ⟨rfl, rfl⟩ | ⟨rfl, rfl⟩
    · simp (config := {maxSteps := 3000000}) (disch := omega) only [g0,g1,g2,g3,g4,g5,g6,g7,g8,g9,E1,DZ,DO,E0,DX,DM,DS,DW,DP,E4,w0,w1,w2,w3,w4,w5,w6,w7,w8,w9,E2,DT,DR,DY,DU,DN,DV,E3,DQ,E7,C5,CY,D6,Bq,BJ,Bs,CZ,CX,CS,D8,Cr,Cl,C7,BY,Cp,C4,C3,Cj,Cw,BP,C1,D5,Br,Cv,C6,Ch,Ce,Cd,B4,AN,AL,AM,AB,AF,As,AU,Ay,Bh,BF,CR,Cn,Bu,BA,Ct,AW,BC,AY,BI,Bb,B3,BV,Bl,Ci,Bw,Be,B7,B6,cond_true,cond_false,List.set_cons_zero,List.set_cons_succ,List.length_cons,List.length_nil,A6,Ak,Aa,Mk,Nat.reduceAdd,Nat.reduceSub,Nat.reduceMul,Nat.reduceMod,Nat.reduceDiv,decide_true,decide_false,Nat.zero_add,beq_self_eq_true,Bool.not_true,Bool.not_false,bne_self_eq_false,CO,BU,BX,BW,C8,BR,AO,AV,Nat.mod_eq_of_lt,decide_eq_true,decide_eq_false,Q0,U,D9,BZ,D7,Cy,Cq,AH,Aj,Al,AE,Av,AA,AD,Aw,Az,Ar,Cg,Bm,BH,Bj,AZ,BK,Bn,Bt,B1,BT,Cx,  Bp,CV,CW,Aq,Af,Ao,AS,Cf,CA,B8,Ac,A8,Ad,Ax,Ai,Am,Ae,AX,CP,Ba,Ab,Bv,BB,Bf,By,C9,CQ,BN,AR,Bd,Co,B9,Bc,List.nil_append,List.cons_append,List.take_zero,List.drop_zero,List.drop_succ_cons,List.take_succ_cons,List.drop_nil,List.append_nil,Bool.and_true,Bool.true_and,Bool.and_false,Bool.false_and,Bool.or_true,Bool.true_or,Bool.or_false,Bool.false_or,BQ,Cz,C0,Ck,D4,Cu, Cc,Bo,Cm,B5,CT,C2,Bk,Bz,BG,Nat.one_mul,Nat.mul_one,Bi,Bx,BE,AP,BO,BS,Cb,Ca,AT,Au,BD,AQ,not_true_eq_false,not_false_eq_true,decide_eq_true hi,decide_eq_true hif,JJ,Jv,Qp,hdr,Qx,ec,hl,hg,eg,ef,e1,h2,e3,hv3,heq]
    · simp (config := {maxSteps := 3000000}) (disch := omega) only [g0,g1,g2,g3,g4,g5,g6,g7,g8,g9,E1,DZ,DO,E0,DX,DM,DS,DW,DP,E4,w0,w1,w2,w3,w4,w5,w6,w7,w8,w9,E2,DT,DR,DY,DU,DN,DV,E3,DQ,E7,C5,CY,D6,Bq,BJ,Bs,CZ,CX,CS,D8,Cr,Cl,C7,BY,Cp,C4,C3,Cj,Cw,BP,C1,D5,Br,Cv,C6,Ch,Ce,Cd,B4,AN,AL,AM,AB,AF,As,AU,Ay,Bh,BF,CR,Cn,Bu,BA,Ct,AW,BC,AY,BI,Bb,B3,BV,Bl,Ci,Bw,Be,B7,B6,cond_true,cond_false,List.set_cons_zero,List.set_cons_succ,List.length_cons,List.length_nil,A6,Ak,Aa,Mk,Nat.reduceAdd,Nat.reduceSub,Nat.reduceMul,Nat.reduceMod,Nat.reduceDiv,decide_true,decide_false,Nat.zero_add,beq_self_eq_true,Bool.not_true,Bool.not_false,bne_self_eq_false,CO,BU,BX,BW,C8,BR,AO,AV,Nat.mod_eq_of_lt,decide_eq_true,decide_eq_false,Q0,U,D9,BZ,D7,Cy,Cq,AH,Aj,Al,AE,Av,AA,AD,Aw,Az,Ar,Cg,Bm,BH,Bj,AZ,BK,Bn,Bt,B1,BT,Cx,  Bp,CV,CW,Aq,Af,Ao,AS,Cf,CA,B8,Ac,A8,Ad,Ax,Ai,Am,Ae,AX,CP,Ba,Ab,Bv,BB,Bf,By,C9,CQ,BN,AR,Bd,Co,B9,Bc,List.nil_append,List.cons_append,List.take_zero,List.drop_zero,List.drop_succ_cons,List.take_succ_cons,List.drop_nil,List.append_nil,Bool.and_true,Bool.true_and,Bool.and_false,Bool.false_and,Bool.or_true,Bool.true_or,Bool.or_false,Bool.false_or,BQ,Cz,C0,Ck,D4,Cu, Cc,Bo,Cm,B5,CT,C2,Bk,Bz,BG,Nat.one_mul,Nat.mul_one,Bi,Bx,BE,AP,BO,BS,Cb,Ca,AT,Au,BD,AQ,not_true_eq_false,not_false_eq_true,decide_eq_true hi,decide_eq_true hif,JJ,Jv,Qp,hdr,Qx,ec,hl,hg,eg,ef,e1,h2,e3,hv3,heq]
  · obtain ⟨h', n', now', res, h3, n3, v3, e1, hres, e3, hv3, R'⟩ := rest h fl S F
    refine ⟨h', n', now', cutW ps[i], ?_, R'⟩
    unfold saB
    rcases hres with ⟨rfl, rfl⟩ | ⟨rfl, rfl⟩
    · simp (config := {maxSteps := 3000000}) (disch := omega) only [g0,g1,g2,g3,g4,g5,g6,g7,g8,g9,E1,DZ,DO,E0,DX,DM,DS,DW,DP,E4,w0,w1,w2,w3,w4,w5,w6,w7,w8,w9,E2,DT,DR,DY,DU,DN,DV,E3,DQ,E7,C5,CY,D6,Bq,BJ,Bs,CZ,CX,CS,D8,Cr,Cl,C7,BY,Cp,C4,C3,Cj,Cw,BP,C1,D5,Br,Cv,C6,Ch,Ce,Cd,B4,AN,AL,AM,AB,AF,As,AU,Ay,Bh,BF,CR,Cn,Bu,BA,Ct,AW,BC,AY,BI,Bb,B3,BV,Bl,Ci,Bw,Be,B7,B6,cond_true,cond_false,List.set_cons_zero,List.set_cons_succ,List.length_cons,List.length_nil,A6,Ak,Aa,Mk,Nat.reduceAdd,Nat.reduceSub,Nat.reduceMul,Nat.reduceMod,Nat.reduceDiv,decide_true,decide_false,Nat.zero_add,beq_self_eq_true,Bool.not_true,Bool.not_false,bne_self_eq_false,CO,BU,BX,BW,C8,BR,AO,AV,Nat.mod_eq_of_lt,decide_eq_true,decide_eq_false,Q0,U,D9,BZ,D7,Cy,Cq,AH,Aj,Al,AE,Av,AA,AD,Aw,Az,Ar,Cg,Bm,BH,Bj,AZ,BK,Bn,Bt,B1,BT,Cx,  Bp,CV,CW,Aq,Af,Ao,AS,Cf,CA,B8,Ac,A8,Ad,Ax,Ai,Am,Ae,AX,CP,Ba,Ab,Bv,BB,Bf,By,C9,CQ,BN,AR,Bd,Co,B9,Bc,List.nil_append,List.cons_append,List.take_zero,List.drop_zero,List.drop_succ_cons,List.take_succ_cons,List.drop_nil,List.append_nil,Bool.and_true,Bool.true_and,Bool.and_false,Bool.false_and,Bool.or_true,Bool.true_or,Bool.or_false,Bool.false_or,BQ,Cz,C0,Ck,D4,Cu, Cc,Bo,Cm,B5,CT,C2,Bk,Bz,BG,Nat.one_mul,Nat.mul_one,Bi,Bx,BE,AP,BO,BS,Cb,Ca,AT,Au,BD,AQ,not_true_eq_false,not_false_eq_true,decide_eq_true hi,decide_eq_false hif,JJ,Jv,Qp,hdr,Qx,ec,hl,e1,h2,e3,hv3,heq]
    · simp (config := {maxSteps := 3000000}) (disch := omega) only [g0,g1,g2,g3,g4,g5,g6,g7,g8,g9,E1,DZ,DO,E0,DX,DM,DS,DW,DP,E4,w0,w1,w2,w3,w4,w5,w6,w7,w8,w9,E2,DT,DR,DY,DU,DN,DV,E3,DQ,E7,C5,CY,D6,Bq,BJ,Bs,CZ,CX,CS,D8,Cr,Cl,C7,BY,Cp,C4,C3,Cj,Cw,BP,C1,D5,Br,Cv,C6,Ch,Ce,Cd,B4,AN,AL,AM,AB,AF,As,AU,Ay,Bh,BF,CR,Cn,Bu,BA,Ct,AW,BC,AY,BI,Bb,B3,BV,Bl,Ci,Bw,Be,B7,B6,cond_true,cond_false,List.set_cons_zero,List.set_cons_succ,List.length_cons,List.length_nil,A6,Ak,Aa,Mk,Nat.reduceAdd,Nat.reduceSub,Nat.reduceMul,Nat.reduceMod,Nat.reduceDiv,decide_true,decide_false,Nat.zero_add,beq_self_eq_true,Bool.not_true,Bool.not_false,bne_self_eq_false,CO,BU,BX,BW,C8,BR,AO,AV,Nat.mod_eq_of_lt,decide_eq_true,decide_eq_false,Q0,U,D9,BZ,D7,Cy,Cq,AH,Aj,Al,AE,Av,AA,AD,Aw,Az,Ar,Cg,Bm,BH,Bj,AZ,BK,Bn,Bt,B1,BT,Cx,  Bp,CV,CW,Aq,Af,Ao,AS,Cf,CA,B8,Ac,A8,Ad,Ax,Ai,Am,Ae,AX,CP,Ba,Ab,Bv,BB,Bf,By,C9,CQ,BN,AR,Bd,Co,B9,Bc,List.nil_append,List.cons_append,List.take_zero,List.drop_zero,List.drop_succ_cons,List.take_succ_cons,List.drop_nil,List.append_nil,Bool.and_true,Bool.true_and,Bool.and_false,Bool.false_and,Bool.or_true,Bool.true_or,Bool.or_false,Bool.false_or,BQ,Cz,C0,Ck,D4,Cu, Cc,Bo,Cm,B5,CT,C2,Bk,Bz,BG,Nat.one_mul,Nat.mul_one,Bi,Bx,BE,AP,BO,BS,Cb,Ca,AT,Au,BD,AQ,not_true_eq_false,not_false_eq_true,decide_eq_true hi,decide_eq_false hif,JJ,Jv,Qp,hdr,Qx,ec,hl,e1,h2,e3,hv3,heq]
theorem begun9:XF (CE tab 30 ⟨.d0, .d1, .d15⟩ [] Dd YI)=true := by kernel_rfl
theorem sa_nil:SU (CE tab 31 ⟨.d0, .d0, .d6⟩ [.oth .any, .nil .sl] Dd YI)=true := by kernel_rfl
theorem saB_out {m:Nat} {ps:List (Option (List UInt8))} {fv rv bv sv fp:V} {now:List UInt8} {i:Nat} {h:Heap} {n:K4} (hps:ps.length<9223372036854775808) (hi:¬ (i<ps.length∧i<15)) (hi2:i≤15) :
    saB (CE tab m) (.mk (.mk fv (.oth (.rx (ps.map PS) ps.length 1)) rv fp) (.mk sv (sb now) (.int .i64 i) bv) Q0 Q0 Q0 Q0 Q0 Q0) h n = .ok (.exit 0) (.mk (.mk fv (.oth (.rx (ps.map PS) ps.length 1)) rv fp) (.mk sv (sb now) (.int .i64 i) bv) Q0 Q0 Q0 Q0 Q0 Q0) h n := by
  unfold saB
  by_cases h1:i<ps.length
  · obtain rfl:i=15 := by omega
    simp (disch := omega) only [g0,g1,g2,g3,g4,g5,g6,g7,g8,g9,E1,DZ,DO,E0,DX,DM,DS,DW,DP,E4,w0,w1,w2,w3,w4,w5,w6,w7,w8,w9,E2,DT,DR,DY,DU,DN,DV,E3,DQ,E7,C5,CY,D6,Bq,BJ,Bs,CZ,CX,CS,D8,Cr,Cl,C7,BY,Cp,C4,C3,Cj,Cw,BP,C1,D5,Br,Cv,C6,Ch,Ce,Cd,B4,AN,AL,AM,AB,AF,As,AU,Ay,Bh,BF,CR,Cn,Bu,BA,Ct,AW,BC,AY,BI,Bb,B3,BV,Bl,Ci,Bw,Be,B7,B6,cond_true,cond_false,List.set_cons_zero,List.set_cons_succ,List.length_cons,List.length_nil,A6,Ak,Aa,Mk,Nat.reduceAdd,Nat.reduceSub,Nat.reduceMul,Nat.reduceMod,Nat.reduceDiv,decide_true,decide_false,Nat.zero_add,beq_self_eq_true,Bool.not_true,Bool.not_false,bne_self_eq_false,CO,BU,BX,BW,C8,BR,AO,AV,Nat.mod_eq_of_lt,decide_eq_true,decide_eq_false,Q0,U,D9,BZ,D7,Cy,Cq,AH,Aj,Al,AE,Av,AA,AD,Aw,Az,Ar,Cg,Bm,BH,Bj,AZ,BK,Bn,Bt,B1,BT,Cx,  Bp,CV,CW,Aq,Af,Ao,AS,Cf,CA,B8,Ac,A8,Ad,Ax,Ai,Am,Ae,AX,CP,Ba,Ab,Bv,BB,Bf,By,C9,CQ,BN,AR,Bd,Co,B9,Bc,List.nil_append,List.cons_append,List.take_zero,List.drop_zero,List.drop_succ_cons,List.take_succ_cons,List.drop_nil,List.append_nil,Bool.and_true,Bool.true_and,Bool.and_false,Bool.false_and,Bool.or_true,Bool.true_or,Bool.or_false,Bool.false_or,BQ,Cz,C0,Ck,D4,Cu, Cc,Bo,Cm,B5,CT,C2,Bk,Bz,BG,Nat.one_mul,Nat.mul_one,Bi,Bx,BE,AP,BO,BS,Cb,Ca,AT,Au,BD,AQ,not_true_eq_false,not_false_eq_true,decide_eq_true h1,Jv,JJ]
  · simp (disch := omega) only [g0,g1,g2,g3,g4,g5,g6,g7,g8,g9,E1,DZ,DO,E0,DX,DM,DS,DW,DP,E4,w0,w1,w2,w3,w4,w5,w6,w7,w8,w9,E2,DT,DR,DY,DU,DN,DV,E3,DQ,E7,C5,CY,D6,Bq,BJ,Bs,CZ,CX,CS,D8,Cr,Cl,C7,BY,Cp,C4,C3,Cj,Cw,BP,C1,D5,Br,Cv,C6,Ch,Ce,Cd,B4,AN,AL,AM,AB,AF,As,AU,Ay,Bh,BF,CR,Cn,Bu,BA,Ct,AW,BC,AY,BI,Bb,B3,BV,Bl,Ci,Bw,Be,B7,B6,cond_true,cond_false,List.set_cons_zero,List.set_cons_succ,List.length_cons,List.length_nil,A6,Ak,Aa,Mk,Nat.reduceAdd,Nat.reduceSub,Nat.reduceMul,Nat.reduceMod,Nat.reduceDiv,decide_true,decide_false,Nat.zero_add,beq_self_eq_true,Bool.not_true,Bool.not_false,bne_self_eq_false,CO,BU,BX,BW,C8,BR,AO,AV,Nat.mod_eq_of_lt,decide_eq_true,decide_eq_false,Q0,U,D9,BZ,D7,Cy,Cq,AH,Aj,Al,AE,Av,AA,AD,Aw,Az,Ar,Cg,Bm,BH,Bj,AZ,BK,Bn,Bt,B1,BT,Cx,  Bp,CV,CW,Aq,Af,Ao,AS,Cf,CA,B8,Ac,A8,Ad,Ax,Ai,Am,Ae,AX,CP,Ba,Ab,Bv,BB,Bf,By,C9,CQ,BN,AR,Bd,Co,B9,Bc,List.nil_append,List.cons_append,List.take_zero,List.drop_zero,List.drop_succ_cons,List.take_succ_cons,List.drop_nil,List.append_nil,Bool.and_true,Bool.true_and,Bool.and_false,Bool.false_and,Bool.or_true,Bool.true_or,Bool.or_false,Bool.false_or,BQ,Cz,C0,Ck,D4,Cu, Cc,Bo,Cm,B5,CT,C2,Bk,Bz,BG,Nat.one_mul,Nat.mul_one,Bi,Bx,BE,AP,BO,BS,Cb,Ca,AT,Au,BD,AQ,not_true_eq_false,not_false_eq_true,decide_eq_false h1,Jv,JJ]
theorem sa_loop {m:Nat} {ps:List (Option (List UInt8))} {fs:List Nat} {fv rv:V} {f sp:K4} (hps:ps.length<9223372036854775808) (hp2:∀ o∈ps, ∀ b, o=some b->b.length<9223372036854775808) (hfl:fs.length<9223372036854775808) (hf2:∀ r∈fs, r<18446744073709551616) (hfv:FV fv fs) :
    ∀ (j i:Nat) (h:Heap) (n:K4) (now:List UInt8) (bv:V), i+j=min ps.length 15->RS h n f sp now i →
    ∃ h' n' now' bv' i', (∀ K, Gw (saB (CE tab (m+12))) (K+j+1) (.mk (.mk fv (.oth (.rx (ps.map PS) ps.length 1)) rv (.ptr f 0)) (.mk (.ptr sp 0) (sb now) (.int .i64 i) bv) Q0 Q0 Q0 Q0 Q0 Q0) h n =
      .ok (.exit 0) (.mk (.mk fv (.oth (.rx (ps.map PS) ps.length 1)) rv (.ptr f 0)) (.mk (.ptr sp 0) (sb now') (.int .i64 i') bv') Q0 Q0 Q0 Q0 Q0 Q0) h' n')∧RS h' n' f sp now' i'∧i'≤15 := by
  intro j
  induction j with
  | zero =>
    intro i h n now bv hi D
    refine ⟨h, n, now, bv, i, fun K => ?_, D, by omega⟩
    rw [GC, saB_out hps (by omega) (by omega), BS]
  | succ j ih =>
    intro i h n now bv hi D
    obtain ⟨h1, n1, now1, bv1, e1, D1⟩ := saB_in (m := m) (rv := rv) (bv := bv) hps hp2 hfl hf2 hfv (i := i) (by omega) (by omega) D
    obtain ⟨h2, n2, now2, bv2, i2, e2, D2, k⟩ := ih (i+1) h1 n1 now1 bv1 (by omega) D1
    refine ⟨h2, n2, now2, bv2, i2, fun K => ?_, D2, k⟩
    rw [GC, e1, BO]
    exact e2 K
def firstL:List UInt8 := [102, 105, 114, 115, 116]
def lastL:List UInt8 := [108, 97, 115, 116]
theorem bsl_first {n:K4} (hn:n.toN<65535) (h:Heap) (κ:KV):FF true 5 1 [iB 102, iB 105, iB 114, iB 115, iB 116] h n κ=κ (.sl n 0 5 5 true 1) (B0 n h (some (.c (cb firstL) false none))) n.up := by
  have e:FF true 5 1 [iB 102, iB 105, iB 114, iB 115, iB 116] h n κ=Gm h n (.c (cb firstL) false none) fun h' n' => κ (.sl n 0 5 5 true 1) h' n' := by kernel_rfl
  rw [e, BN hn]
theorem bsl_last {n:K4} (hn:n.toN<65535) (h:Heap) (κ:KV):FF true 4 1 [iB 108, iB 97, iB 115, iB 116] h n κ=κ (.sl n 0 4 4 true 1) (B0 n h (some (.c (cb lastL) false none))) n.up := by
  have e:FF true 4 1 [iB 108, iB 97, iB 115, iB 116] h n κ=Gm h n (.c (cb lastL) false none) fun h' n' => κ (.sl n 0 4 4 true 1) h' n' := by kernel_rfl
  rw [e, BN hn]
theorem bslK_at {p:K4} {h:Heap} {cs:Cs} {s:Bool} {pr:Option K4} (hp:Ag p h=some (.c cs s pr)) (a b c:Nat) (ex:Bool) (z:Nat) (κ:V->R):Jc (.sl p a b c ex z) h κ=κ (.sl p a b c ex z) := by
  show NN p h (fun _ _ _ => κ (.sl p a b c ex z))=_
  rw [Gk, KA hp]
theorem sa_run {ps:List (Option (List UInt8))} {fs:List Nat} {fv:V} (hps:ps.length<9223372036854775808) (hp2:∀ o∈ps, ∀ b, o=some b->b.length<9223372036854775808) (hfl:fs.length<9223372036854775808) (hf2:∀ r∈fs, r<18446744073709551616) (hfv:FV fv fs) :
    SU (CE tab 31 ⟨.d0, .d0, .d6⟩ [fv, .oth (.rx (ps.map PS) ps.length 1)] Dd YI)=true := by
  obtain ⟨h1, n1, e1, b1, f1⟩ := Xt begun9
  have u1 := K4.up_toN (p := n1) (by omega)
  have u2 := K4.up_toN (p := n1.up) (by omega)
  have u3 := K4.up_toN (p := n1.up.up) (by omega)
  have u4 := K4.up_toN (p := n1.up.up.up) (by omega)
  have e2 := new_ok (m := 27) (h := h1) (n := n1) (room := 100000) (by omega) (by omega)
  rw [show 27+3=30 from rfl] at e2
  generalize hA:B0 n1.up.up (B0 n1.up (B0 n1 h1 (some (.m [] [] 0))) (some (.m [] [] 0))) (some (.c (.l (fsC 100000 0 0 18446744073709551615 (.map n1) (.map n1.up) (.nil .sl))) false none))=A at e2
  have a1:Ag n1.up.up A=some (.c (.l (fsC 100000 0 0 18446744073709551615 (.map n1) (.map n1.up) (.nil .sl))) false none) := by rw [←hA, A6]
  have a2:Ag n1 A=some (.m [] [] 0) := by rw [←hA]; simp (disch := omega) only [Af,Ao,A6]
  have a3:Dg A n1.up.up.up := fun q hq => by rw [←hA]; simp (disch := omega) only [Ao]; exact f1 q (by omega)
  obtain ⟨h2, n2, x, dm, pc, lm, sp, cv, sv, tv, e3, b3, b3', S⟩ := screate_ok (m := 18) (n := n1.up.up.up.up) (h := B0 n1.up.up.up A (some (.c (cb firstL) false none))) (v := .sl n1.up.up.up 0 5 5 true 1) (l := firstL) ((Af (by omega) _ _).trans a1) ((Af (by omega) _ _).trans a2) (fun q hq => (Ao (by omega) _ _).trans (a3 q (by omega))) (by omega) (by omega)
    (.inr (.inr ⟨_, 0, 5, true, firstL, false, none, rfl, A6 _ _ _, by decide, rfl⟩)) (fun p hp => by obtain ⟨_, _, _, e⟩ := hp; obtain ⟨rfl, _⟩ := V.sl.inj e; exact ⟨by omega, (K4.ne_of_lt (by omega)).symm, (K4.ne_of_lt (by omega)).symm⟩) (by decide) (by omega) (by omega) (by omega) (by omega)
  rw [show 18+12=30 from rfl] at e3
  have R0':RS h2 n2 n1.up.up sp firstL 0 := ⟨_, x, dm, pc, lm, _, _, _, _, _, _, _, cv, sv, tv, _, _, _, S, IV.first (by decide), .inl rfl, by omega, by omega, by omega⟩
  obtain ⟨h3, n3, now, bv, i3, eL, D3, k3⟩ := sa_loop (m := 18) (rv := .bool false) hps hp2 hfl hf2 hfv (min ps.length 15) 0 h2 n2 firstL Ec (by omega) R0'
  have eK := eL (999999999 - min ps.length 15)
  rw [show 999999999 - min ps.length 15+min ps.length 15+1=999999999+1 by omega, GC, show sb firstL = .str 5 500153084262 from rfl, show 18+12=30 from rfl] at eK
  simp only [Q0] at eK
  generalize hR:CE tab 31 ⟨.d0, .d0, .d6⟩ [fv, .oth (.rx (ps.map PS) ps.length 1)] Dd YI=R0
  rw [call2_at, show DB ⟨.d0, .d0, .d6⟩ tab=some x6 from rfl, x6_L, x6L] at hR
  simp (config := {maxSteps := 3000000}) (disch := omega) only [g0,g1,g2,g3,g4,g5,g6,g7,g8,g9,E1,DZ,DO,E0,DX,DM,DS,DW,DP,E4,w0,w1,w2,w3,w4,w5,w6,w7,w8,w9,E2,DT,DR,DY,DU,DN,DV,E3,DQ,E7,C5,CY,D6,Bq,BJ,Bs,CZ,CX,CS,D8,Cr,Cl,C7,BY,Cp,C4,C3,Cj,Cw,BP,C1,D5,Br,Cv,C6,Ch,Ce,Cd,B4,AN,AL,AM,AB,AF,As,AU,Ay,Bh,BF,CR,Cn,Bu,BA,Ct,AW,BC,AY,BI,Bb,B3,BV,Bl,Ci,Bw,Be,B7,B6,cond_true,cond_false,List.set_cons_zero,List.set_cons_succ,List.length_cons,List.length_nil,A6,Ak,Aa,Mk,Nat.reduceAdd,Nat.reduceSub,Nat.reduceMul,Nat.reduceMod,Nat.reduceDiv,decide_true,decide_false,Nat.zero_add,beq_self_eq_true,Bool.not_true,Bool.not_false,bne_self_eq_false,CO,BU,BX,BW,C8,BR,AO,AV,Nat.mod_eq_of_lt,decide_eq_true,decide_eq_false,Q0,U,D9,BZ,D7,Cy,Cq,AH,Aj,Al,AE,Av,AA,AD,Aw,Az,Ar,Cg,Bm,BH,Bj,AZ,BK,Bn,Bt,B1,BT,Cx,  Bp,CV,CW,Aq,Af,Ao,AS,Cf,CA,B8,Ac,A8,Ad,Ax,Ai,Am,Ae,AX,CP,Ba,Ab,Bv,BB,Bf,By,C9,CQ,BN,AR,Bd,Co,B9,Bc,List.nil_append,List.cons_append,List.take_zero,List.drop_zero,List.drop_succ_cons,List.take_succ_cons,List.drop_nil,List.append_nil,Bool.and_true,Bool.true_and,Bool.and_false,Bool.false_and,Bool.or_true,Bool.true_or,Bool.or_false,Bool.false_or,BQ,Cz,C0,Ck,D4,Cu, Cc,Bo,Cm,B5,CT,C2,Bk,Bz,BG,Nat.one_mul,Nat.mul_one,Bi,Bx,BE,AP,BO,BS,Cb,Ca,AT,Au,BD,AQ,not_true_eq_false,not_false_eq_true,en1,e1,e2,bsl_first,HH] at hR
  rw [bslK_at (A6 _ _ _)] at hR
  simp (config := {maxSteps := 3000000}) (disch := omega) only [g0,g1,g2,g3,g4,g5,g6,g7,g8,g9,E1,DZ,DO,E0,DX,DM,DS,DW,DP,E4,w0,w1,w2,w3,w4,w5,w6,w7,w8,w9,E2,DT,DR,DY,DU,DN,DV,E3,DQ,E7,C5,CY,D6,Bq,BJ,Bs,CZ,CX,CS,D8,Cr,Cl,C7,BY,Cp,C4,C3,Cj,Cw,BP,C1,D5,Br,Cv,C6,Ch,Ce,Cd,B4,AN,AL,AM,AB,AF,As,AU,Ay,Bh,BF,CR,Cn,Bu,BA,Ct,AW,BC,AY,BI,Bb,B3,BV,Bl,Ci,Bw,Be,B7,B6,cond_true,cond_false,List.set_cons_zero,List.set_cons_succ,List.length_cons,List.length_nil,A6,Ak,Aa,Mk,Nat.reduceAdd,Nat.reduceSub,Nat.reduceMul,Nat.reduceMod,Nat.reduceDiv,decide_true,decide_false,Nat.zero_add,beq_self_eq_true,Bool.not_true,Bool.not_false,bne_self_eq_false,CO,BU,BX,BW,C8,BR,AO,AV,Nat.mod_eq_of_lt,decide_eq_true,decide_eq_false,Q0,U,D9,BZ,D7,Cy,Cq,AH,Aj,Al,AE,Av,AA,AD,Aw,Az,Ar,Cg,Bm,BH,Bj,AZ,BK,Bn,Bt,B1,BT,Cx,  Bp,CV,CW,Aq,Af,Ao,AS,Cf,CA,B8,Ac,A8,Ad,Ax,Ai,Am,Ae,AX,CP,Ba,Ab,Bv,BB,Bf,By,C9,CQ,BN,AR,Bd,Co,B9,Bc,List.nil_append,List.cons_append,List.take_zero,List.drop_zero,List.drop_succ_cons,List.take_succ_cons,List.drop_nil,List.append_nil,Bool.and_true,Bool.true_and,Bool.and_false,Bool.false_and,Bool.or_true,Bool.true_or,Bool.or_false,Bool.false_or,BQ,Cz,C0,Ck,D4,Cu, Cc,Bo,Cm,B5,CT,C2,Bk,Bz,BG,Nat.one_mul,Nat.mul_one,Bi,Bx,BE,AP,BO,BS,Cb,Ca,AT,Au,BD,AQ,not_true_eq_false,not_false_eq_true,e3] at hR
  rw [eK] at hR
  obtain ⟨d, x3, dm3, pc3, lm3, rd3, calls3, fl3, bb, kk, bs3, ys3, cv3, sv3, tv3, cur3, turn3, nxt3, S3, I3, F3, c1, c2, c3⟩ := D3
  have u5 := K4.up_toN (p := n3) (by omega)
  have e4 := fail_ok (m := 29) (n := n3) (g := 18446744073709551615) S3.hf (.inr rfl)
  rw [show 29+1=30 from rfl] at e4
  have S4 := S3.fail (g := 18446744073709551615)
  generalize B0 n1.up.up h3 (some (.c (.l (fsC 100000 rd3 calls3 18446744073709551615 (.map d) (.map lm3) (.nil .sl))) false none))=h4 at e4 S4
  have S5:SS (B0 n3 h4 (some (.c (cb lastL) false none))) n3.up n1.up.up d x3 dm3 pc3 lm3 sp 100000 rd3 calls3 18446744073709551615 bb kk bs3 ys3 cv3 sv3 tv3 cur3 turn3 nxt3 now := S4.more (by omega) (fun q hq => Af hq _ _) fun q hq => (Ao (by omega) _ _).trans (S4.fr q (by omega))
  obtain ⟨h6, n6, dm6, sv6, tv6, e6, b6, b6', _, S6, m6⟩ := save_ok (m := 18) (v := .sl n3 0 4 4 true 1) (l := lastL) S5 (.inl ⟨rfl, rfl⟩) (.inl ⟨rfl, rfl⟩) (.inr (.inr ⟨_, 0, 4, true, lastL, false, none, rfl, A6 _ _ _, by decide, rfl⟩))
    (fun p hp => by obtain ⟨_, _, _, e⟩ := hp; obtain ⟨rfl, _⟩ := V.sl.inj e; exact ⟨by omega, fun q hq => (K4.ne_of_lt (S4.lt q hq)).symm⟩) (by decide) (by have := I3.nx; omega) I3.c1 I3.len (by omega) (by omega) (by omega) (by omega)
  rw [show 18+12=30 from rfl] at e6
  have I6 := I3.saved (l := lastL) (by decide) (by omega)
  have hO6 := I3.other (l := lastL) (by decide)
  change SS h6 n6 n1.up.up d x3 dm6 pc3 lm3 sp 100000 rd3 (calls3+2) 18446744073709551615 bb kk (ED bs3 cur3 (slotL (nxt3+1) lastL)) (ED bs3 cur3 (slotL (nxt3+1) lastL)) cv3 sv6 tv6 (1 - cur3) (nxt3+1) (nxt3+1) lastL at S6
  generalize ED bs3 cur3 (slotL (nxt3+1) lastL)=bs6 at S6 I6 hO6
  have l6 := I6.len
  obtain ⟨p6, ho6, hp6⟩:∃ p, Kx p h6 sv6 bs6∧p.toN<n6.toN := by
    rcases S6.oy with ⟨_, e⟩ | ⟨p, ex, e, g, q, _⟩
    · rw [e] at l6; cases l6
    · exact ⟨p, .inr ⟨ex, e, g⟩, q⟩
  obtain ⟨h8, n8, g, d', l', x', p', dm2, cv2, sv2, p4, e8, b8, b8', o8, g8, d8, x8, m8, ow8, l8, ow8', f8, ⟨s1, s2, s3, s4, s5, s6⟩, ⟨r1, r2, r3, r4, r5, r6⟩, _, _⟩ := crash_1 (m := 20) (n := n6) (nv := .int .i64 0) (kv := .nil .sl) (tv := .int .i64 18446744073709551615) S6.hf S6.hl S6.hb S6.hx m6 ho6 (by omega) S6.fr (S6.lt _ (by simp)) (S6.lt _ (by simp)) (S6.lt _ (by simp)) (S6.lt _ (by simp)) hp6 (by omega)
  rw [show 20+10=30 from rfl] at e8
  obtain ⟨k1, k2, k4⟩ := slot_blk l6 I6.c1 (by decide) (by omega) I6.slot
  obtain ⟨h9, n9, sp9, tv9, e9, b9, b9', o9, y9, s9, t9, _, _, f9⟩ := open_ok (m := 26) (n := n8) (cur := 1 - cur3) (turn := nxt3+1) (l := lastL) (av := [g]) g8 d8 x8 ow8 l6 f8 (by omega) (by omega) (by omega) r1 (K4.ne_of_lt (by omega)).symm (K4.ne_of_lt (by omega)).symm r2 (by omega) (by omega) (by simp) (fun q hq => by rw [List.mem_singleton.1 hq]; omega) I6.c1 (by omega) (by omega) k1 k2 k4 hO6
  rw [show 26+4=30 from rfl] at e9
  obtain ⟨h10, n10, v10, e10, _, _, hv10, _⟩ := text_ok (m := 28) (n := n9) s9 t9 (by decide) (by omega)
  rw [show 28+2=30 from rfl] at e10
  have hlast:∀ κ:V->R, EX (sb lastL) (.str 4 1953718636) κ=κ (.bool true) := fun κ => by
    show Er (G2 lastL.length (CJ lastL) lastL.length (CJ lastL)) (fun r => κ (.bool r))=_
    rw [Dr, Rw, decide_eq_true rfl]
  simp (config := {maxSteps := 3000000}) (disch := omega) only [g0,g1,g2,g3,g4,g5,g6,g7,g8,g9,E1,DZ,DO,E0,DX,DM,DS,DW,DP,E4,w0,w1,w2,w3,w4,w5,w6,w7,w8,w9,E2,DT,DR,DY,DU,DN,DV,E3,DQ,E7,C5,CY,D6,Bq,BJ,Bs,CZ,CX,CS,D8,Cr,Cl,C7,BY,Cp,C4,C3,Cj,Cw,BP,C1,D5,Br,Cv,C6,Ch,Ce,Cd,B4,AN,AL,AM,AB,AF,As,AU,Ay,Bh,BF,CR,Cn,Bu,BA,Ct,AW,BC,AY,BI,Bb,B3,BV,Bl,Ci,Bw,Be,B7,B6,cond_true,cond_false,List.set_cons_zero,List.set_cons_succ,List.length_cons,List.length_nil,A6,Ak,Aa,Mk,Nat.reduceAdd,Nat.reduceSub,Nat.reduceMul,Nat.reduceMod,Nat.reduceDiv,decide_true,decide_false,Nat.zero_add,beq_self_eq_true,Bool.not_true,Bool.not_false,bne_self_eq_false,CO,BU,BX,BW,C8,BR,AO,AV,Nat.mod_eq_of_lt,decide_eq_true,decide_eq_false,Q0,U,D9,BZ,D7,Cy,Cq,AH,Aj,Al,AE,Av,AA,AD,Aw,Az,Ar,Cg,Bm,BH,Bj,AZ,BK,Bn,Bt,B1,BT,Cx,  Bp,CV,CW,Aq,Af,Ao,AS,Cf,CA,B8,Ac,A8,Ad,Ax,Ai,Am,Ae,AX,CP,Ba,Ab,Bv,BB,Bf,By,C9,CQ,BN,AR,Bd,Co,B9,Bc,List.nil_append,List.cons_append,List.take_zero,List.drop_zero,List.drop_succ_cons,List.take_succ_cons,List.drop_nil,List.append_nil,Bool.and_true,Bool.true_and,Bool.and_false,Bool.false_and,Bool.or_true,Bool.true_or,Bool.or_false,Bool.false_or,BQ,Cz,C0,Ck,D4,Cu, Cc,Bo,Cm,B5,CT,C2,Bk,Bz,BG,Nat.one_mul,Nat.mul_one,Bi,Bx,BE,AP,BO,BS,Cb,Ca,AT,Au,BD,AQ,not_true_eq_false,not_false_eq_true,e4,bsl_last] at hR
  rw [bslK_at (A6 _ _ _)] at hR
  simp (config := {maxSteps := 3000000}) (disch := omega) only [g0,g1,g2,g3,g4,g5,g6,g7,g8,g9,E1,DZ,DO,E0,DX,DM,DS,DW,DP,E4,w0,w1,w2,w3,w4,w5,w6,w7,w8,w9,E2,DT,DR,DY,DU,DN,DV,E3,DQ,E7,C5,CY,D6,Bq,BJ,Bs,CZ,CX,CS,D8,Cr,Cl,C7,BY,Cp,C4,C3,Cj,Cw,BP,C1,D5,Br,Cv,C6,Ch,Ce,Cd,B4,AN,AL,AM,AB,AF,As,AU,Ay,Bh,BF,CR,Cn,Bu,BA,Ct,AW,BC,AY,BI,Bb,B3,BV,Bl,Ci,Bw,Be,B7,B6,cond_true,cond_false,List.set_cons_zero,List.set_cons_succ,List.length_cons,List.length_nil,A6,Ak,Aa,Mk,Nat.reduceAdd,Nat.reduceSub,Nat.reduceMul,Nat.reduceMod,Nat.reduceDiv,decide_true,decide_false,Nat.zero_add,beq_self_eq_true,Bool.not_true,Bool.not_false,bne_self_eq_false,CO,BU,BX,BW,C8,BR,AO,AV,Nat.mod_eq_of_lt,decide_eq_true,decide_eq_false,Q0,U,D9,BZ,D7,Cy,Cq,AH,Aj,Al,AE,Av,AA,AD,Aw,Az,Ar,Cg,Bm,BH,Bj,AZ,BK,Bn,Bt,B1,BT,Cx,  Bp,CV,CW,Aq,Af,Ao,AS,Cf,CA,B8,Ac,A8,Ad,Ax,Ai,Am,Ae,AX,CP,Ba,Ab,Bv,BB,Bf,By,C9,CQ,BN,AR,Bd,Co,B9,Bc,List.nil_append,List.cons_append,List.take_zero,List.drop_zero,List.drop_succ_cons,List.take_succ_cons,List.drop_nil,List.append_nil,Bool.and_true,Bool.true_and,Bool.and_false,Bool.false_and,Bool.or_true,Bool.true_or,Bool.or_false,Bool.false_or,BQ,Cz,C0,Ck,D4,Cu, Cc,Bo,Cm,B5,CT,C2,Bk,Bz,BG,Nat.one_mul,Nat.mul_one,Bi,Bx,BE,AP,BO,BS,Cb,Ca,AT,Au,BD,AQ,not_true_eq_false,not_false_eq_true,e6,e8,e9,e10,hv10,hlast,JJ,Jv] at hR
  rw [←hR]; rfl
end Go.Ev.Ytdgefeadbcbglaa
