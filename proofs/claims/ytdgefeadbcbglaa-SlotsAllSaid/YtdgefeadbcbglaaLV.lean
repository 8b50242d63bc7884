/- What the functions do, as equations over their texts, 1. -/
import Derived.Test.YtdgefeadbcbglaaLK
import Derived.KernelRfl
namespace Go.Ev.Ytdgefeadbcbglaa
open Go Go.Ev
set_option linter.unusedVariables false
set_option linter.unusedSimpArgs false
theorem getnS_lt {x b:Nat} (hb:b<256):GF x b<18446744073709551616 :=
  Nat.or_lt_two_pow (n := 64) (Nat.mod_lt _ (by decide)) (Nat.lt_trans hb (by decide))
theorem getnQ_lt:∀ (j d x:Nat), x<18446744073709551616->DH j d x<18446744073709551616
  | 0, _, _, h => h
  | j+1, d, x, h => by
    show DH j (sh d 1) (GF x (lo d 1))<18446744073709551616
    exact getnQ_lt j _ _ (getnS_lt (If _))
theorem enc_lo1 (b:UInt8) (l:List UInt8):lo (Ar (b::l)) 1=b.toNat := by
  have e := G3 (b::l) 0 1
  rw [show sh (Ar (b::l)) 0=Ar (b::l) by rw [E0, Nat.pow_zero, Nat.div_one]] at e
  rw [e]; rfl
theorem sh_one (b:UInt8) (l:List UInt8):sh (Ar (b::l)) 1=Ar l := by
  rw [E0, Nat.pow_one]
  show (b.toNat+256*Ar l) / 256=Ar l
  have := b.toNat_lt
  omega
theorem get_put (v:Nat):∀ (k x:Nat), x*256 ^ k+v % 256 ^ k<18446744073709551616->DH k (Ar (putL v k)) x=x*256 ^ k+v % 256 ^ k
  | 0, x, _ => by show x=x*1+v % 1; omega
  | k+1, x, h => by
    show DH k (sh (Ar (UInt8.ofNat ((v >>> (8*k)) % 256)::putL v k)) 1) (GF x (lo (Ar (UInt8.ofNat ((v >>> (8*k)) % 256)::putL v k)) 1))=_
    have hb:((UInt8.ofNat ((v >>> (8*k)) % 256))).toNat=(v / 256 ^ k) % 256 := by
      show ((v >>> (8*k)) % 256) % 256=_
      rw [Nat.mod_mod, Nat.shiftRight_eq_div_pow, show (256:Nat)=2 ^ 8 from rfl, ←Nat.pow_mul]
    rw [enc_lo1, sh_one, hb]
    have hlt:(v / 256 ^ k) % 256<256 := Nat.mod_lt _ (by decide)
    have hm:v % 256 ^ (k+1)=256 ^ k*(v / 256 ^ k % 256)+v % 256 ^ k := by rw [Nat.pow_succ, Nat.mod_mul]; omega
    have hx:x*256 ^ (k+1)=256 ^ k*(x*256) := by rw [Nat.pow_succ, Nat.mul_comm (256 ^ k) 256, ←Nat.mul_assoc, Nat.mul_comm]
    generalize (v / 256 ^ k) % 256=b at *
    have h1:1≤256 ^ k := Nat.one_le_pow _ _ (by decide)
    have h2:x*256+b<18446744073709551616 := by
      rw [hm, hx] at h
      have:256 ^ k*(x*256+b)≤256 ^ k*(x*256)+(256 ^ k*b+v % 256 ^ k) := by rw [Nat.mul_add]; omega
      have h3:x*256+b≤256 ^ k*(x*256+b) := Nat.le_mul_of_pos_left _ h1
      omega
    have hs:GF x b=x*256+b := by
      show ((Nat.shiftLeft x 8) % 18446744073709551616) ||| b=_
      have e1:Nat.shiftLeft x 8=x*256 := by show x <<< 8=_; rw [Nat.shiftLeft_eq]
      have e2:(x*256) % 18446744073709551616=x*256 := Nat.mod_eq_of_lt (Nat.lt_of_le_of_lt (Nat.le_add_right _ b) h2)
      rw [e1, e2]
      have := Nat.shiftLeft_add_eq_or_of_lt (i := 8) hlt x
      rw [Nat.shiftLeft_eq] at this
      exact this.symm
    rw [hs, get_put v k _ (by rw [Nat.add_mul, Nat.mul_comm (x*256), Nat.mul_comm b]; rw [hm, hx] at h; omega), hm, hx, Nat.add_mul, Nat.mul_comm (x*256), Nat.mul_comm b]
    omega
noncomputable def numL (l:List UInt8):Nat := DH l.length (Ar l) 0
theorem numL_lt (l:List UInt8):numL l<18446744073709551616 := getnQ_lt _ _ _ (by decide)
noncomputable def rdLen (B:List UInt8):Nat := numL ((B.drop 8).take 4)
noncomputable def rdTurn (B:List UInt8):Nat := numL (B.take 8)
noncomputable def rdText (B:List UInt8):List UInt8 := (B.drop 16).take (rdLen B)
noncomputable def rdOK (B:List UInt8):Bool := decide (rdLen B≤B.length - 16)&&decide (crcM (crcM 0 (B.take 12)) (rdText B)=numL ((B.drop 12).take 4) % 4294967296)
theorem cvi_i64_u64 {a:Nat} (h:a<9223372036854775808) (κ:V->R):Cu .i64 (.int .u64 a) κ=κ (.int .i64 a) := by
  rw [Kp (k := .i64) (j := .u64) (show a<18446744073709551616 by omega), Nat.mod_eq_of_lt (by show a<18446744073709551616; omega)]
theorem cvi_u32_u64 {a:Nat} (h:a<18446744073709551616) (κ:V->R):Cu .u32 (.int .u64 a) κ=κ (.int .u32 (a % 4294967296)) := Kp (k := .u32) (j := .u64) h κ
theorem eql_u32 (a b:Nat) (κ:V->R):Dk (.int .u32 a) (.int .u32 b) κ=κ (.bool (decide (a=b))) := UG .u32 a b κ
theorem read65 {m:Nat} {h:Heap} {n p:K4} {ex sp:Bool} {pr:Option K4} {B:List UInt8} (hp:A9 p h=some (.c (cb B) sp pr)) (hB:16≤B.length) (hB2:B.length≤10000) :
    ∃ tv v:V, Ap tab (m+3) ⟨.d0, .d4, .d1⟩ [.sl p 0 B.length B.length ex 1] h n = .rv (.tup [tv, v, .bool (rdOK B)]) h n∧(rdOK B=true->tv = .int .u64 (rdTurn B)∧rdLen B+16≤B.length∧v = .sl p 16 (rdLen B) (B.length - 16) ex 1) := by
  have k1 := numL_lt ((B.drop 8).take 4)
  have k2 := numL_lt ((B.drop 12).take 4)
  have e1 := get_sl (m := m+1) (n := n) (p := p) (off := 8) (len := 4) (cap := B.length - 8) (ex := ex) hp (by omega) rfl (by omega)
  have hdL:rdLen B=numL ((B.drop 8).take 4) := rfl
  rw [show DH ((B.drop 8).take 4).length (Ar ((B.drop 8).take 4)) 0=rdLen B from rfl, show m+1+1=m+2 from rfl] at e1
  rw [←hdL] at k1
  generalize hR:Ap tab (m+3) ⟨.d0, .d4, .d1⟩ [.sl p 0 B.length B.length ex 1] h n=R0
  rw [call2_at, show Bh ⟨.d0, .d4, .d1⟩ tab=some x65 from rfl, x65] at hR
  by_cases hle:rdLen B≤B.length - 16
  · have e2 := get_sl (m := m+1) (n := n) (p := p) (off := 0) (len := 8) (cap := B.length) (ex := ex) (l := B.take 8) hp (by omega) rfl (by omega)
    have e3 := sum_sl (m := m) (n := n) (p := p) (off := 0) (len := 12) (cap := B.length) (ex := ex) (l := B.take 12) hp (by omega) rfl (by omega)
    have e4 := more_sl (m := m+1) (n := n) (p := p) (off := 16) (len := rdLen B) (cap := B.length - 16) (ex := ex) (l := rdText B) (s := crcM 0 (B.take 12)) hp (by omega) rfl (by omega) (crcM_lt (by omega))
    have e5 := get_sl (m := m+1) (n := n) (p := p) (off := 12) (len := 4) (cap := B.length - 12) (ex := ex) hp (by omega) rfl (by omega)
    rw [show DH (B.take 8).length (Ar (B.take 8)) 0=rdTurn B from rfl, show m+1+1=m+2 from rfl] at e2
    rw [show DH ((B.drop 12).take 4).length (Ar ((B.drop 12).take 4)) 0=numL ((B.drop 12).take 4) from rfl, show m+1+1=m+2 from rfl] at e5
    rw [show m+1+1=m+2 from rfl] at e4
    have hok:rdOK B=decide (crcM (crcM 0 (B.take 12)) (rdText B)=numL ((B.drop 12).take 4) % 4294967296) := by rw [rdOK, decide_eq_true hle, Bool.true_and]
    simp (disch := omega) only [qa,g0,g1,g2,g3,g4,g5,g6,g7,g8,g9,BB,BC,Bq,BA,By,Bw,BD,BH,Bp,BK,w0,w1,w2,w3,w4,w5,w6,w7,w8,w9,BF,Bz,Bx,BE,BI,Bv,BG,BJ,Bu,BL,Mk,Nat.reduceAdd,Nat.reduceSub,Nat.reduceMul,Nat.reduceMod,Nat.reduceDiv,Q0,U,en3,NT,WF,e1,e2,e3,e4,e5,cvi_64,cvi_i64_u64,cvi_u32_u64,Nat.add_sub_cancel_left,decide_eq_false,eql_u32,Nat.zero_add] at hR
    rw [←hok] at hR
    exact ⟨_, _, hR.symm, fun _ => ⟨rfl, by omega, rfl⟩⟩
  · have hok:rdOK B=false := by rw [rdOK, decide_eq_false hle, Bool.false_and]
    simp (disch := omega) only [qa,g0,g1,g2,g3,g4,g5,g6,g7,g8,g9,BB,BC,Bq,BA,By,Bw,BD,BH,Bp,BK,w0,w1,w2,w3,w4,w5,w6,w7,w8,w9,BF,Bz,Bx,BE,BI,Bv,BG,BJ,Bu,BL,Mk,Nat.reduceAdd,Nat.reduceSub,Nat.reduceMul,Nat.reduceMod,Nat.reduceDiv,Q0,U,en3,NT,WF,e1,cvi_64,cvi_i64_u64] at hR
    rw [←hok] at hR
    exact ⟨_, _, hR.symm, fun h => by rw [hok] at h; cases h⟩
/-- A slot's bytes, ahead of anything, read as what was put. -/
theorem numL_put {v k:Nat} (hv:v<256 ^ k) (h64:256 ^ k≤18446744073709551616):numL (putL v k)=v := by
  show DH (putL v k).length (Ar (putL v k)) 0=v
  have hm:v % 256 ^ k=v := Nat.mod_eq_of_lt hv
  rw [putL_len, get_put v k 0 (by rw [hm]; omega), hm]; omega
theorem slot_parts {turn:Nat} {l B:List UInt8} (hB:B.take (16+l.length)=slotL turn l) (hl:16+l.length≤B.length) :
    B.take 8=putL turn 8∧(B.drop 8).take 4=putL l.length 4∧B.take 12=headL turn l∧(B.drop 12).take 4=putL (crcM (crcM 0 (headL turn l)) l) 4∧(B.drop 16).take l.length=l := by
  have hs := slotL_len turn l
  have e:B=slotL turn l++B.drop (16+l.length) := by rw [←hB, List.take_append_drop]
  have p8 := putL_len turn 8
  have p4 := putL_len l.length 4
  have pc := putL_len (crcM (crcM 0 (headL turn l)) l) 4
  have h12 := headL_len turn l
  generalize B.drop (16+l.length)=R at e
  subst e
  unfold slotL
  refine ⟨?_, ?_, ?_, ?_, ?_⟩
  · rw [headL]; simp only [List.append_assoc]; rw [List.take_append_of_le_length (by omega), List.take_of_length_le (by omega)]
  · rw [headL]; simp only [List.append_assoc]; rw [List.drop_append_of_le_length (by omega), List.drop_of_length_le (by omega), List.nil_append, List.take_append_of_le_length (by omega), List.take_of_length_le (by omega)]
  · simp only [List.append_assoc]; rw [List.take_append_of_le_length (by omega), List.take_of_length_le (by omega)]
  · simp only [List.append_assoc]; rw [List.drop_append_of_le_length (by omega), List.drop_of_length_le (by omega), List.nil_append, List.take_append_of_le_length (by omega), List.take_of_length_le (by omega)]
  · rw [show headL turn l++putL (crcM (crcM 0 (headL turn l)) l) 4++l++R=(headL turn l++putL (crcM (crcM 0 (headL turn l)) l) 4)++(l++R) by simp only [List.append_assoc], List.drop_append_of_le_length (by rw [List.length_append]; omega), List.drop_of_length_le (by rw [List.length_append]; omega), List.nil_append, List.take_append_of_le_length (by omega), List.take_of_length_le (by omega)]
theorem slot_reads {turn:Nat} {l B:List UInt8} (ht:turn<18446744073709551616) (hl:l.length≤10000) (hB:B.take (16+l.length)=slotL turn l) (hlb:16+l.length≤B.length):rdOK B=true∧rdTurn B=turn∧rdText B=l∧rdLen B=l.length := by
  obtain ⟨a1, a2, a3, a4, a5⟩ := slot_parts hB hlb
  have kc := crcM_lt (s := crcM 0 (headL turn l)) (l := l) (crcM_lt (by omega))
  have h4:(256:Nat) ^ 4=4294967296 := by decide
  have h8:(256:Nat) ^ 8=18446744073709551616 := by decide
  have eL:rdLen B=l.length := by rw [rdLen, a2, numL_put (by rw [h4]; omega) (by rw [h4]; omega)]
  have eT:rdText B=l := by rw [rdText, eL, a5]
  refine ⟨?_, by rw [rdTurn, a1, numL_put (by rw [h8]; exact ht) (by rw [h8]; exact Nat.le_refl _)], eT, eL⟩
  rw [rdOK, eL, eT, a3, a4, numL_put (by rw [h4]; exact kc) (by rw [h4]; decide), Nat.mod_eq_of_lt kc, decide_eq_true (by omega), decide_eq_true rfl]; rfl
/-- Bytes of one's own somewhere else. -/
def At (h:Heap) (n:K4) (av:List K4) (v:V) (l:List UInt8):Prop := (v = .nil .sl∧l=[]) ∨ ∃ p ex, v = .sl p 0 l.length l.length ex 1∧A9 p h=some (.c (cb l) false none)∧p.toN<n.toN ∧ ∀ q∈av, p≠q
theorem At.frame {h h':Heap} {n n':K4} {av av':List K4} {v:V} {l:List UInt8} (H:At h n av v l) (hn:n.toN≤n'.toN) (e:∀ p:K4, p.toN<n.toN->(∀ q∈av, p≠q)->A9 p h'=A9 p h ∧ ∀ q∈av', p≠q):At h' n' av' v l := by
  rcases H with H | ⟨p, ex, h1, h2, h3, h4⟩
  · exact .inl H
  · exact .inr ⟨p, ex, h1, ((e p h3 h4).1).trans h2, by omega, (e p h3 h4).2⟩
theorem At.src {h:Heap} {n:K4} {av:List K4} {v:V} {l:List UInt8} (H:At h n av v l):De v l h := by
  rcases H with H | ⟨p, ex, rfl, h2, _⟩
  · exact .inr (.inl H)
  · exact .inr (.inr ⟨p, 0, l.length, ex, l, false, none, rfl, h2, by omega, by rw [List.drop_zero, List.take_length]⟩)
/-- A clone of bytes of any kind. -/
def ClO (m:Nat) (h:Heap) (n:K4) (v:V) (l:List UInt8) (av:List K4):Prop := ∃ h' n' v', Ap tab (m+1) ⟨.d0, .d3, .d7⟩ [v] h n = .rv v' h' n'∧n.toN≤n'.toN∧n'.toN≤n.toN+2∧At h' n' av v' l∧(∀ q:K4, q.toN<n.toN->A9 q h'=A9 q h)∧(AH h n->AH h' n')∧(v' = .nil .sl ∨ ∃ p a ex, v' = .sl p 0 a a ex 1)
theorem clone_by {m:Nat} {h:Heap} {n:K4} {v:V} {l:List UInt8} (hL:l.length≤1000000000) (hn:n.toN<63000) (av:List K4) (hav:∀ q∈av, q.toN<n.toN) (hy:∀ κ:Nat->Cs->R, H5 1 v (Af n h (some (.c (.b 0 0) false none))) κ=κ l.length (cb l)) (hnn:∀ κ:V->R, ET false (.rf .sl) v (.nil .sl) κ=κ (.bool false)):ClO m h n v l av := by
  have u1 := K4.up_toN (p := n) (by omega)
  obtain ⟨h', n', v', p', e1, b1, b2, o1, c1, c2, g1', g2', w1'⟩ := app_empty (l := l) (n := n) (h := Af n h (some (.c (.b 0 0) false none))) (by omega) (by omega) (A7 _ _ _)
  refine ⟨h', n', v', ?_, by omega, b2, ?_, fun q hq => (g1' q (by omega)).trans (Am hq _ _), fun hf q hq => (g2' q hq).trans ((AB (by omega) _ _).trans (hf q (by omega))), .inr ⟨p', _, _, w1'⟩⟩
  · rw [call2_at, show Bh ⟨.d0, .d3, .d7⟩ tab=some x55 from rfl, x55]
    simp (disch := omega) only [qa,g0,g1,g2,g3,g4,g5,g6,g7,g8,g9,BB,BC,Bq,BA,By,Bw,BD,BH,Bp,BK,w0,w1,w2,w3,w4,w5,w6,w7,w8,w9,BF,Bz,Bx,BE,BI,Bv,BG,BJ,Bu,BL,Mk,Nat.reduceAdd,Nat.reduceSub,Nat.reduceMul,Nat.reduceMod,Nat.reduceDiv,Q0,U,en3,q_appS,hnn,hy,e1]
  · rcases o1 with ⟨rfl, rfl⟩ | ⟨ex, rfl, h2⟩
    · exact .inl ⟨rfl, rfl⟩
    · exact .inr ⟨p', ex, rfl, h2, c2, fun q hq => (K4.ne_of_lt (by have := hav q hq; omega)).symm⟩
theorem clone_src {m:Nat} {h:Heap} {n:K4} {v:V} {l:List UInt8} (H:De v l h) (hp:∀ p:K4, (∃ off cap ex, v = .sl p off l.length cap ex 1)->p.toN<n.toN) (hL:l.length≤1000000000) (hn:n.toN<63000) (av:List K4) (hav:∀ q∈av, q.toN<n.toN):ClO m h n v l av := by
  rcases H with rfl | ⟨rfl, rfl⟩ | ⟨p, off, cap, ex, L, sp, pr, rfl, h1, h2, h3⟩
  · exact clone_by hL hn av hav (fun κ => rfl) (fun κ => Q7 false _ _ κ)
  · exact ⟨h, n, .nil .sl, clone_nil, by omega, by omega, .inl ⟨rfl, rfl⟩, fun q _ => rfl, fun h => h, .inl rfl⟩
  · exact clone_by hL hn av hav (fun κ => by rw [Yo ((Am (hp p ⟨off, cap, ex, rfl⟩) _ _).trans h1) h2, h3]) (fun κ => PQ false _ _ _ _ _ _ κ)
theorem same_str (a c:Nat) (κ:R):Bf (.str a c) (.str a c) κ=κ := by
  show br (DJ a c a c) κ _=κ
  rw [Lo]; simp only [decide_true,and_self,Bool.and_self,Ac]
/-- A slots file's record. -/
abbrev spC (f:K4) (tv:V) (turn cur nxt:Nat):List V := [.ptr f 0, .str 1 65, tv, .int .u64 turn, .int .i64 cur, .int .u64 nxt]
/-- A disk with one file, and a slots file on it. -/
structure SS (h:Heap) (n f d x dm pc lm sp:K4) (room rd calls fl b k:Nat) (bs ys:List UInt8) (cv sv tv:V) (cur turn nxt:Nat) (text:List UInt8):Prop where
  hf:A9 f h=some (.c (.l (fsC room rd calls fl (.map d) (.map lm) (.nil .sl))) false none)
  hd:A9 d h=some (.m [(.str 1 65, .ptr x 0)] [b] k)
  hb:b<k
  hl:A9 lm h=some (.m [(.str 1 65, .ptr x 0)] [b] k)
  hx:A9 x h=some (.c (.l [cv, sv, .map dm]) false none)
  hm:∃ es ds dk, A9 dm h=some (.m es ds dk)∧IK es
  own:HP pc h cv bs
  oy:At h n [f, d, x, dm, pc, lm, sp] sv ys
  hs:A9 sp h=some (.c (.l (spC f tv turn cur nxt)) false none)
  ot:At h n [f, d, x, dm, pc, lm, sp] tv text
  fr:AH h n
  nd:[f, d, x, dm, pc, lm, sp].Pairwise (· ≠ ·)
  lt:∀ q∈[f, d, x, dm, pc, lm, sp], q.toN<n.toN
theorem save_ok {m:Nat} {h:Heap} {n f d x dm pc lm sp:K4} {room rd calls fl fl1 fl2 b k cur turn nxt:Nat} {bs ys text l:List UInt8} {cv sv tv v:V} (D:SS h n f d x dm pc lm sp room rd calls fl b k bs ys cv sv tv cur turn nxt text)
    (b1:Bg fl fl1) (b2:Bg fl1 fl2) (hv:De v l h) (hvp:∀ p:K4, (∃ off cap ex, v = .sl p off l.length cap ex 1)->p.toN<n.toN ∧ ∀ q∈[f, d, x, dm, pc, lm, sp], p≠q) (hl:l.length≤4080) (hnx:nxt<1000000) (hcur:cur≤1) (hbs:bs.length=8192)
    (hr1:8192≤room) (hr2:room≤4194304) (hc:calls<900000) (hn:n.toN<56000) :
    ∃ h' n' dm' sv' tv', Ap tab (m+12) ⟨.d0, .d2, .d1⟩ [.ptr sp 0, v] h n = .rv (.int .i64 0) h' n'∧n.toN≤n'.toN∧n'.toN≤n.toN+80∧(∀ q:K4, q.toN<n.toN->(∀ r∈[f, d, x, dm, pc, lm, sp], q≠r)->A9 q h'=A9 q h) ∧
      SS h' n' f d x dm' pc lm sp room rd (calls+2) fl2 b k (bs.take ((1 - cur)*4096)++(slotL (nxt+1) l++bs.drop ((1 - cur)*4096+(slotL (nxt+1) l).length))) (bs.take ((1 - cur)*4096)++(slotL (nxt+1) l++bs.drop ((1 - cur)*4096+(slotL (nxt+1) l).length))) cv sv' tv' (1 - cur) (nxt+1) (nxt+1) l∧A9 dm' h'=some (.m [] [] 0) := by
  have ⟨lf, ld, lx, lm', lp, ll, ls⟩:f.toN<n.toN∧d.toN<n.toN∧x.toN<n.toN∧dm.toN<n.toN∧pc.toN<n.toN∧lm.toN<n.toN∧sp.toN<n.toN := ⟨D.lt f (by simp), D.lt d (by simp), D.lt x (by simp), D.lt dm (by simp), D.lt pc (by simp), D.lt lm (by simp), D.lt sp (by simp)⟩
  have nd := D.nd
  simp only [List.pairwise_cons,List.mem_cons,List.not_mem_nil,or_false,forall_eq_or_imp,forall_eq,List.Pairwise.nil,and_true,false_implies,implies_true] at nd
  obtain ⟨⟨nfd, nfx, nfm, nfp, nfl, nfs⟩, ⟨ndx, ndm, ndp, ndl, nds⟩, ⟨nxm, nxp, nxl, nxs⟩, ⟨nmp, nml, nms⟩, ⟨npl, nps⟩, nls⟩ := nd
  obtain ⟨es, ds, dk, hm, ik⟩ := D.hm
  -- the counter
  generalize hA:Af sp h (some (.c (.l (spC f tv turn cur (nxt+1))) false none))=A
  have aS:A9 sp A=some (.c (.l (spC f tv turn cur (nxt+1))) false none) := by rw [←hA, A7]
  have aO:∀ q:K4, q≠sp->A9 q A=A9 q h := fun q hq => by rw [←hA]; exact A6 _ _ (Ne.symm hq)
  have aF:AH A n := fun q hq => (aO q (K4.ne_of_lt (by omega)).symm).trans (D.fr q hq)
  have hvA:De v l A := hv.frame fun p hp => aO p ((hvp p hp).2 sp (by simp))
  -- the slot's bytes
  obtain ⟨c1, h1, n1, e1, o1, a1, a2, f1, r1⟩ := slot_ok (m := m+8) (turn := nxt+1) (n := n) (by omega) hvA (fun p hp => (hvp p hp).1) (by omega) (by omega)
  have hsl:(slotL (nxt+1) l).length=16+l.length := slotL_len _ _
  have hc1:∀ p:K4, (∃ off cap ex, c1 = .sl p off (slotL (nxt+1) l).length cap ex 1)->n.toN≤p.toN∧p.toN<n1.toN := by
    rintro p ⟨off, cap, ex, e⟩
    rcases o1 with ⟨h, _⟩ | ⟨p', ex', pr, h, _, q1, q2, _⟩
    · rw [h] at e; cases e
    · rw [h] at e; cases e; exact ⟨q1, q2⟩
  -- it is written
  have W := write_in (m := m) (n := n1) (off := (1 - cur)*4096) b1 (by omega) ((f1 f lf).trans ((aO f nfs).trans D.hf)) ((f1 d ld).trans ((aO d nds).trans D.hd)) D.hb ((f1 x lx).trans ((aO x nxs).trans D.hx)) ((f1 dm lm').trans ((aO dm nms).trans hm)) ik
    (D.own.frame ((f1 pc lp).trans (aO pc nps))) o1.src hr2 (by omega) (by rw [hsl, hbs]; rcases (by omega:cur=0∨cur=1) with rfl | rfl <;> omega) (by omega) (by omega) nfd.symm (by omega) nfx (by omega) nxm.symm nfm (by omega) nfp.symm nxp.symm nmp.symm (by omega)
    (fun p hp => by obtain ⟨q1, q2⟩ := hc1 p hp; exact ⟨q2, (K4.ne_of_lt (by omega)).symm, (K4.ne_of_lt (by omega)).symm, (K4.ne_of_lt (by omega)).symm, (K4.ne_of_lt (by omega)).symm⟩)
  obtain ⟨h2, n2, e2, a3, a4, r2, f2, y2, m2, o2⟩ := W
  have x2 := (f2 x (by omega) nfx.symm nxm nxp).trans ((f1 x lx).trans ((aO x nxs).trans D.hx))
  have d2 := (f2 d (by omega) nfd.symm ndm ndp).trans ((f1 d ld).trans ((aO d nds).trans D.hd))
  -- and synced
  obtain ⟨h3, n3, dm', sv', ps', e3, a5, a6, r3, f3, y3, x3, c3, c3', m3, ow3, q3, q3'⟩ := sync_ok (m := m+8) (n := n2) b2 (by omega) y2 d2 x2 o2 (by rw [JW (by rw [hsl, hbs]; rcases (by omega:cur=0∨cur=1) with rfl | rfl <;> omega), hbs]; omega) (by omega) (by omega) nfd.symm (by omega) nfx (by omega) nfp.symm nxp.symm (by omega)
  have k3:∀ q:K4, q.toN<n.toN->q≠sp->q≠f->q≠dm->q≠pc->q≠x->A9 q h3=A9 q h := fun q h1 h2 h3 h4 h5 h6 => by
    rw [f3 q (by omega) h3 h6, f2 q (by omega) h3 h4 h5, f1 q h1, aO q h2]
  -- the text's clone
  have hv3:De v l h3 := hv.frame fun p hp => by
    obtain ⟨q1, q2⟩ := hvp p hp
    exact k3 p q1 (q2 sp (by simp)) (q2 f (by simp)) (q2 dm (by simp)) (q2 pc (by simp)) (q2 x (by simp))
  obtain ⟨h4, n4, tv', e4, a7, a8, t4, f4, r4, w4'⟩ := clone_src (m := m+10) (n := n3) hv3 (fun p hp => by have := (hvp p hp).1; omega) (by omega) (by omega) [f, d, x, dm', pc, lm, sp] (fun q hq => by
    simp only [List.mem_cons,List.not_mem_nil,or_false] at hq
    rcases hq with rfl | rfl | rfl | rfl | rfl | rfl | rfl <;> omega)
  have s3:A9 sp h3=some (.c (.l (spC f tv turn cur (nxt+1))) false none) := by rw [f3 sp (by omega) nfs.symm nxs.symm, f2 sp (by omega) nfs.symm nms.symm nps.symm, f1 sp ls, aS]
  have s4 := (f4 sp (by omega)).trans s3
  have s2:A9 sp h2=some (.c (.l (spC f tv turn cur (nxt+1))) false none) := by rw [f2 sp (by omega) nfs.symm nms.symm nps.symm, f1 sp ls, aS]
  have s1 := (f1 sp ls).trans aS
  have el := hv.len (by omega)
  have hmul:((1 - cur)*4096) % 18446744073709551616=(1 - cur)*4096 := Nat.mod_eq_of_lt (by omega)
  generalize hR:Ap tab (m+12) ⟨.d0, .d2, .d1⟩ [.ptr sp 0, v] h n=R0
  rw [call2_at, show Bh ⟨.d0, .d2, .d1⟩ tab=some x33 from rfl, x33] at hR
  simp (config := {maxSteps := 3000000}) (disch := omega) only [qa,g0,g1,g2,g3,g4,g5,g6,g7,g8,g9,BB,BC,Bq,BA,By,Bw,BD,BH,Bp,BK,w0,w1,w2,w3,w4,w5,w6,w7,w8,w9,BF,Bz,Bx,BE,BI,Bv,BG,BJ,Bu,BL,Mk,Nat.reduceAdd,Nat.reduceSub,Nat.reduceMul,Nat.reduceMod,Nat.reduceDiv,Q0,U,en1,el,D.hs,hA,hmul] at hR
  have sT:∀ (p:K4) (off:Nat) (h:Heap) (κ:Heap->R), Bt (.ptr p off) tv' h κ=Ta (A9 p h) h p off tv' κ := by
    rcases w4' with rfl | ⟨_, _, _, rfl⟩
    · exact fun p off h κ => O7 _ _ _ _ _
    · exact fun p off h κ => Ra _ _ _ _ _ _ _ _ _ _
  rw [show m+8+3=m+11 from rfl] at e1 e3
  rw [show m+10+1=m+11 from rfl] at e4
  simp (config := {maxSteps := 3000000}) (disch := omega) only [qa,g0,g1,g2,g3,g4,g5,g6,g7,g8,g9,BB,BC,Bq,BA,By,Bw,BD,BH,Bp,BK,w0,w1,w2,w3,w4,w5,w6,w7,w8,w9,BF,Bz,Bx,BE,BI,Bv,BG,BJ,Bu,BL,Mk,Nat.reduceAdd,Nat.reduceSub,Nat.reduceMul,Nat.reduceMod,Nat.reduceDiv,Q0,U,aS,s1,s2,s3,s4,e1,e2,e3,e4,hmul,XI,same_str,KO,sT] at hR
  subst hR
  have hps:sv' = .nil .sl∨n2.toN≤ps'.toN∧ps'.toN<n3.toN := q3'.2
  have ne7:∀ q:K4, (∀ r∈[f, d, x, dm, pc, lm, sp], q≠r)->q≠f∧q≠x∧q≠dm∧q≠pc∧q≠sp := fun q hq => ⟨hq f (by simp), hq x (by simp), hq dm (by simp), hq pc (by simp), hq sp (by simp)⟩
  have lo:∀ q:K4, n2.toN≤q.toN->∀ r∈[f, d, x, pc, lm, sp], q≠r := fun q hq r hr => by
    simp only [List.mem_cons,List.not_mem_nil,or_false] at hr
    rcases hr with rfl | rfl | rfl | rfl | rfl | rfl <;> exact (K4.ne_of_lt (by omega)).symm
  refine ⟨_, n4, dm', sv', tv', rfl, by omega, by omega, fun q hq hr => ?_, ?_, by rw [A6 _ _ (lo dm' c3 sp (by simp)).symm, f4 dm' (by omega)]; exact m3⟩
  · obtain ⟨q1, q2, q3, q4, q5⟩ := ne7 q hr
    rw [A6 _ _ (Ne.symm q5), f4 q (by omega), k3 q hq q5 q1 q3 q4 q2]
  · refine ⟨?_, ?_, D.hb, ?_, ?_, ⟨[], [], 0, ?_, IK.nil⟩, ?_, ?_, A7 _ _ _, ?_, ?_, ?_, ?_⟩
    · rw [A6 _ _ nfs.symm, f4 f (by omega)]; exact y3
    · rw [A6 _ _ nds.symm, f4 d (by omega), f3 d (by omega) nfd.symm ndx]; exact d2
    · rw [A6 _ _ nls.symm, f4 lm (by omega), k3 lm ll nls nfl.symm nml.symm npl.symm nxl.symm]; exact D.hl
    · rw [A6 _ _ nxs.symm, f4 x (by omega)]; exact x3
    · rw [A6 _ _ (lo dm' c3 sp (by simp)).symm, f4 dm' (by omega)]; exact m3
    · exact o2.frame (by rw [A6 _ _ nps.symm, f4 pc (by omega), f3 pc (by omega) nfp.symm nxp.symm])
    · rcases hps with rfl | ⟨q1, q2⟩
      · rcases ow3 with ow3 | ⟨ex, e, _⟩
        · exact .inl ow3
        · cases e
      · rcases ow3 with ow3 | ⟨ex, e, g⟩
        · exact .inl ow3
        · refine .inr ⟨ps', ex, e, ?_, by omega, fun r hr => ?_⟩
          · rw [A6 _ _ (lo ps' q1 sp (by simp)).symm, f4 ps' (by omega)]; exact g
          · simp only [List.mem_cons,List.not_mem_nil,or_false] at hr
            rcases hr with rfl | rfl | rfl | rfl | rfl | rfl | rfl
            · exact lo ps' q1 _ (by simp)
            · exact lo ps' q1 _ (by simp)
            · exact lo ps' q1 _ (by simp)
            · exact q3'.1
            · exact lo ps' q1 _ (by simp)
            · exact lo ps' q1 _ (by simp)
            · exact lo ps' q1 _ (by simp)
    · exact t4.frame (Nat.le_refl _) fun p hp hr => ⟨A6 _ _ (hr sp (by simp)).symm, hr⟩
    · intro q hq
      rw [AB (by omega)]
      exact r4 (r3 (r2 (r1 aF))) q hq
    · simp only [List.pairwise_cons,List.mem_cons,List.not_mem_nil,or_false,forall_eq_or_imp,forall_eq,List.Pairwise.nil,and_true,false_implies,implies_true]
      exact ⟨⟨nfd, nfx, (lo dm' c3 f (by simp)).symm, nfp, nfl, nfs⟩, ⟨ndx, (lo dm' c3 d (by simp)).symm, ndp, ndl, nds⟩, ⟨(lo dm' c3 x (by simp)).symm, nxp, nxl, nxs⟩, ⟨lo dm' c3 pc (by simp), lo dm' c3 lm (by simp), lo dm' c3 sp (by simp)⟩, ⟨npl, nps⟩, nls⟩
    · intro q hq
      simp only [List.mem_cons,List.not_mem_nil,or_false] at hq
      rcases hq with rfl | rfl | rfl | rfl | rfl | rfl | rfl <;> omega
theorem q_tf:(true == false)=false := id rfl
theorem q_ff:(false == false)=true := id rfl
theorem q_gdU (g:Bool) (h:Heap) (n:K4) (F:KV->R) (κ:KV):Cm g AO h n F κ=κ AO h n := id rfl
theorem turn_ok {m:Nat} {h:Heap} {n f sp:K4} {tv:V} {turn cur nxt:Nat} (hs:A9 sp h=some (.c (.l (spC f tv turn cur nxt)) false none)) :
    Ap tab (m+1) ⟨.d0, .d2, .d4⟩ [.ptr sp 0] h n = .rv (.int .u64 turn) h n := by
  rw [call2_at, show Bh ⟨.d0, .d2, .d4⟩ tab=some x36 from rfl, x36]
  simp (disch := omega) only [qa,g0,g1,g2,g3,g4,g5,g6,g7,g8,g9,BB,BC,Bq,BA,By,Bw,BD,BH,Bp,BK,w0,w1,w2,w3,w4,w5,w6,w7,w8,w9,BF,Bz,Bx,BE,BI,Bv,BG,BJ,Bu,BL,Mk,Nat.reduceAdd,Nat.reduceSub,Nat.reduceMul,Nat.reduceMod,Nat.reduceDiv,Q0,U,en3,hs]
theorem text_ok {m:Nat} {h:Heap} {n f sp:K4} {tv:V} {turn cur nxt:Nat} {text:List UInt8} {av:List K4} (hs:A9 sp h=some (.c (.l (spC f tv turn cur nxt)) false none)) (ht:At h n av tv text) (hl:text.length≤10000) (hn:n.toN<60000) :
    ∃ h' n' v', Ap tab (m+2) ⟨.d0, .d2, .d3⟩ [.ptr sp 0] h n = .rv v' h' n'∧n.toN≤n'.toN∧n'.toN≤n.toN+2∧(∀ κ, GE v' h' κ=κ (sb text))∧(∀ q:K4, q.toN<n.toN->A9 q h'=A9 q h)∧(AH h n->AH h' n') := by
  obtain ⟨h', n', v', e, b1, b2, a, f1, r1, w1'⟩ := clone_src (m := m) (n := n) ht.src (fun p hp => by
    obtain ⟨off, cap, ex, e⟩ := hp
    rcases ht with ⟨rfl, _⟩ | ⟨p', ex', rfl, _, q, _⟩
    · cases e
    · cases e; exact q) (by omega) (by omega) [] (fun q hq => by cases hq)
  refine ⟨h', n', v', ?_, b1, b2, fun κ => ?_, f1, r1⟩
  · rw [call2_at, show Bh ⟨.d0, .d2, .d3⟩ tab=some x35 from rfl, x35]
    simp (disch := omega) only [qa,g0,g1,g2,g3,g4,g5,g6,g7,g8,g9,BB,BC,Bq,BA,By,Bw,BD,BH,Bp,BK,w0,w1,w2,w3,w4,w5,w6,w7,w8,w9,BF,Bz,Bx,BE,BI,Bv,BG,BJ,Bu,BL,Mk,Nat.reduceAdd,Nat.reduceSub,Nat.reduceMul,Nat.reduceMod,Nat.reduceDiv,Q0,U,en3,hs,e]
  · rcases a with ⟨rfl, rfl⟩ | ⟨p, ex, rfl, g, _⟩
    · rfl
    · rw [Vi g (by omega), List.drop_zero, List.take_length]
theorem size_ok {m:Nat} {f d x pc:K4} {h:Heap} {n:K4} {a c b k room rd calls fl:Nat} {lw w cv sv dv:V} {bs:List UInt8}
    (hf:A9 f h=some (.c (.l (fsC room rd calls fl (.map d) lw w)) false none)) (hd:A9 d h=some (.m [(.str a c, .ptr x 0)] [b] k))
    (hx:A9 x h=some (.c (.l [cv, sv, dv]) false none)) (ho:HP pc h cv bs) (hbs:bs.length≤1000000000) :
    Ap tab (m+1) ⟨.d0, .d2, .d5⟩ [.ptr f 0, .str a c] h n = .rv (.int .i64 bs.length) h n := by
  have hL := ho.len (by omega)
  rw [call2_at, show Bh ⟨.d0, .d2, .d5⟩ tab=some x37 from rfl, x37]
  simp (disch := omega) only [qa,g0,g1,g2,g3,g4,g5,g6,g7,g8,g9,BB,BC,Bq,BA,By,Bw,BD,BH,Bp,BK,w0,w1,w2,w3,w4,w5,w6,w7,w8,w9,BF,Bz,Bx,BE,BI,Bv,BG,BJ,Bu,BL,Mk,Nat.reduceAdd,Nat.reduceSub,Nat.reduceMul,Nat.reduceMod,Nat.reduceDiv,Q0,U,en1,hf,hd,hx,hL]
theorem save_big {m:Nat} {h:Heap} {n sp:K4} {v:V} {l:List UInt8} (hv:De v l h) (hl:4080<l.length) (hl2:l.length≤1000000):Ap tab (m+1) ⟨.d0, .d2, .d1⟩ [.ptr sp 0, v] h n = .rv (.int .i64 9) h n := by
  have el := hv.len (by omega)
  rw [call2_at, show Bh ⟨.d0, .d2, .d1⟩ tab=some x33 from rfl, x33]
  simp (config := {maxSteps := 3000000}) (disch := omega) only [qa,g0,g1,g2,g3,g4,g5,g6,g7,g8,g9,BB,BC,Bq,BA,By,Bw,BD,BH,Bp,BK,w0,w1,w2,w3,w4,w5,w6,w7,w8,w9,BF,Bz,Bx,BE,BI,Bv,BG,BJ,Bu,BL,Mk,Nat.reduceAdd,Nat.reduceSub,Nat.reduceMul,Nat.reduceMod,Nat.reduceDiv,Q0,U,en1,el]
noncomputable def opB (c:Gl):S->Heap->K4->R := fun t h n=>g7 t fun z8=>B4 z8 (iI 2) fun z9=>Bo z9 (Aq 1 (JB z8 (iI 4096) fun za=>g0 t fun zb=>g1 t fun zc=>g4 t fun zd=>BM zd za fun ze=>L5 (iI 4096) ze fun zf=>Ag (c ⟨.d0,.d1,.d14⟩ [zb,zc,za,zf] h n) fun zg h n=>BT 0 zg fun zh=>BT 1 zg fun zi=>C0 zi (iI 0) fun zj=>Bo zj (.ok (.exit 1) t h n)<|Ag (c ⟨.d0,.d4,.d1⟩ [zh] h n) fun zk h n=>BT 0 zk fun zl=>BT 1 zk fun zm=>BT 2 zk fun zn=>g6 t fun zo=>gK zn zo h n fun zp h n=>gO zn h n (fun k=>DP zp k) fun zq h n=>gK zn zq h n fun zr h n=>Cm false zr h n (fun k=>k zl h n) fun zs h n=>g5 t fun zt=>Cm false zr h n (fun k=>k zt h n) fun zu h n=>Cm false zr h n (fun k=>Ai zu fun v=>k v h n) fun zv h n=>Cm false zr h n (fun k=>As 3 zv fun v=>k v h n) fun zw h n=>Cm false zr h n (fun k=>AA zw h fun v=>k v h n) fun zx h n=>Cm false zr h n (fun k=>CU zs zx fun v=>k v h n) fun zy h n=>gO zn h n (fun k=>AX zr (.bool true) zy k) fun zz h n=>AX zn zz (.bool false) fun z10=>BQ (Bo z10 (Ag (c ⟨.d0,.d3,.d7⟩ [zm] h n) fun z11 h n=>Ai zt fun z12=>As 3 z12 fun z13=>Bt z13 zl h fun h=>Ai zt fun z14=>As 2 z14 fun z15=>Bt z15 z11 h fun h=>Ai zt fun z16=>As 4 z16 fun z17=>Bt z17 z8 h fun h=>w6 t (.bool true) fun t=>nR t h n) (nR t h n)) fun t h n=>nR t h n) fun t h n=>g7 t fun z18=>B0 z18 (iI 1) fun z19=>w7 t z19 fun t=>nR t h n)<|.ok (.exit 0) t h n
noncomputable def x34L:Ent := .code en1 (fun c t h n=>g0 t fun z1=>g1 t fun z2=>Ag (c ⟨.d0,.d2,.d5⟩ [z1,z2] h n) fun z3 h n=>B4 z3 (iI 0) fun z4=>Bo z4 (w2 t (.nil .ptr) fun t=>w3 t (iI 1) fun t=>w4 t z3 fun t=>rT t h n)<|AD 0 z1 [(.nil .ptr),(.str 0 0),(.nil .sl),(iL 0),(iI 0),(iL 0)] fun z5=>AD 1 z2 z5 fun z6=>Fp (.agg z6) h n fun z7 h n=>Aq 0 (w2 t (.nil .ptr) fun t=>w3 t (iI 0) fun t=>w4 t z3 fun t=>w5 t z7 fun t=>w6 t (.bool false) fun t=>w7 t (iI 0) fun t=>Cg (opB c) t h n) fun t h n=>g6 t fun z1a=>DP z1a fun z1b=>Bo z1b (w2 t (.nil .ptr) fun t=>w3 t (iI 4) fun t=>rT t h n)<|g5 t fun z1c=>Ai z1c fun z1d=>As 3 z1d fun z1e=>AA z1e h fun z1f=>Ai z1c fun z1g=>As 5 z1g fun z1h=>Bt z1h z1f h fun h=>w2 t z1c fun t=>w3 t (iI 0) fun t=>rT t h n) (fun t h n=>g2 t fun a0=>g3 t fun a1=>.rv (.tup [a0,a1]) h n)
theorem x34_L:x34=x34L := rfl
/-- What Open knows between two rounds. -/
structure OS (h:Heap) (n f d x pc sp:K4) (room rd calls fl b k:Nat) (lw w:V) (bs:List UInt8) (cv sv dv tv:V) (cur turn:Nat) (text:List UInt8) (h0:Heap) (n0:K4) (av:List K4):Prop where
  hf:A9 f h=some (.c (.l (fsC room rd calls fl (.map d) lw w)) false none)
  hd:A9 d h=some (.m [(.str 1 65, .ptr x 0)] [b] k)
  hx:A9 x h=some (.c (.l [cv, sv, dv]) false none)
  own:HP pc h cv bs
  hs:A9 sp h=some (.c (.l (spC f tv turn cur 0)) false none)
  ot:At h n av tv text
  fa:f∈av
  sa:sp∈av
  la:∀ q∈av, q.toN<n.toN
  fr:AH h n
  fo:∀ q:K4, q.toN<n0.toN->q≠f->A9 q h=A9 q h0
  lf:f.toN<n0.toN
  ld:d.toN<n0.toN
  lx:x.toN<n0.toN
  lp:pc.toN<n0.toN
  l0:n0.toN≤sp.toN
  ls:sp.toN<n.toN
  nd:d≠f
  nx:x≠f
  np:pc≠f
theorem opB_in {m:Nat} {h h0:Heap} {n n0 f d x pc sp:K4} {room rd calls fl b k cur turn i:Nat} {lw w cv sv dv tv:V} {bs text:List UInt8} {fd:Bool} {av:List K4} (D:OS h n f d x pc sp room rd calls fl b k lw w bs cv sv dv tv cur turn text h0 n0 av)
    (hbs:bs.length=8192) (hi:i<2) (hrd:rd<100000000) (hn:n.toN<56000) (htl:turn<18446744073709551616) :
    (rdOK ((bs.drop (i*4096)).take 4096)=true->fd=false∨turn<rdTurn ((bs.drop (i*4096)).take 4096) →
      ∃ h' n' tv', opB (Ap tab (m+3)) (.mk (.mk (.ptr f 0) (.str 1 65) (.nil .ptr) (.int .i64 0)) (.mk (.int .i64 8192) (.ptr sp 0) (.bool fd) (.int .i64 i)) Q0 Q0 Q0 Q0 Q0 Q0) h n = .ok .nrm (.mk (.mk (.ptr f 0) (.str 1 65) (.nil .ptr) (.int .i64 0)) (.mk (.int .i64 8192) (.ptr sp 0) (.bool true) (.int .i64 (i+1))) Q0 Q0 Q0 Q0 Q0 Q0) h' n' ∧
        n.toN≤n'.toN∧n'.toN≤n.toN+6∧OS h' n' f d x pc sp room (rd+4096) calls fl b k lw w bs cv sv dv tv' i (rdTurn ((bs.drop (i*4096)).take 4096)) (rdText ((bs.drop (i*4096)).take 4096)) h0 n0 av) ∧
    (rdOK ((bs.drop (i*4096)).take 4096)=false∨(fd=true∧rdTurn ((bs.drop (i*4096)).take 4096)≤turn) →
      ∃ h' n', opB (Ap tab (m+3)) (.mk (.mk (.ptr f 0) (.str 1 65) (.nil .ptr) (.int .i64 0)) (.mk (.int .i64 8192) (.ptr sp 0) (.bool fd) (.int .i64 i)) Q0 Q0 Q0 Q0 Q0 Q0) h n = .ok .nrm (.mk (.mk (.ptr f 0) (.str 1 65) (.nil .ptr) (.int .i64 0)) (.mk (.int .i64 8192) (.ptr sp 0) (.bool fd) (.int .i64 (i+1))) Q0 Q0 Q0 Q0 Q0 Q0) h' n' ∧
        n.toN≤n'.toN∧n'.toN≤n.toN+6∧OS h' n' f d x pc sp room (rd+4096) calls fl b k lw w bs cv sv dv tv cur turn text h0 n0 av) := by
  have ⟨lf, ld, lx, lp, l0, ls⟩:f.toN<n0.toN∧d.toN<n0.toN∧x.toN<n0.toN∧pc.toN<n0.toN∧n0.toN≤sp.toN∧sp.toN<n.toN := ⟨D.lf, D.ld, D.lx, D.lp, D.l0, D.ls⟩
  obtain ⟨h1, n1, v1, p1, e1, b1, b1', r1, f1, y1, o1, q1⟩ := read_ok (m := m+1) (n := n) (off := i*4096) (len := 4096) D.hf D.hd D.hx D.own (by omega) (by omega) (by omega) (by omega) D.nd D.nx (by omega) D.np (by omega)
  have hmul:(i*4096) % 18446744073709551616=i*4096 := Nat.mod_eq_of_lt (by omega)
  have hmin:∀ κ, L5 (.int .i64 4096) (.int .i64 (8192 - i*4096)) κ=κ (.int .i64 4096) := fun κ => by
    rw [TY (by omega) (by omega), Vs (by omega) (by omega), decide_eq_false (by omega)]; rfl
  have hBl:((bs.drop (i*4096)).take 4096).length=4096 := CO (by omega)
  generalize hB:(bs.drop (i*4096)).take 4096=B at *
  obtain ⟨ex1, rfl, gB⟩:∃ ex, v1 = .sl p1 0 B.length B.length ex 1∧A9 p1 h1=some (.c (cb B) false none) := by
    rcases o1 with ⟨_, rfl⟩ | o1
    · cases hBl
    · exact o1
  obtain ⟨tvv, vv, e2, k2⟩ := read65 (m := m) (n := n1) (ex := ex1) gB (by omega) (by omega)
  have hs1 := (f1 sp ls (K4.ne_of_lt (by omega)).symm).trans D.hs
  have hT:rdTurn B<18446744073709551616 := numL_lt (B.take 8)
  rw [show m+1+2=m+3 from rfl] at e1
  have D1:OS h1 n1 f d x pc sp room (rd+4096) calls fl b k lw w bs cv sv dv tv cur turn text h0 n0 av :=
    ⟨y1, (f1 d (by omega) D.nd).trans D.hd, (f1 x (by omega) D.nx).trans D.hx, D.own.frame (f1 pc (by omega) D.np), hs1, D.ot.frame b1 fun p hp hq => ⟨f1 p hp (hq f D.fa), hq⟩, D.fa, D.sa, fun q hq => Nat.lt_of_lt_of_le (D.la q hq) b1, r1 D.fr, fun q hq hqf => (f1 q (by omega) hqf).trans (D.fo q hq hqf), lf, ld, lx, lp, l0, by omega, D.nd, D.nx, D.np⟩
  refine ⟨fun hok hfd => ?_, fun hno => ?_⟩
  · obtain ⟨rfl, k3, rfl⟩ := k2 hok
    rw [hok] at e2
    obtain ⟨h2, n2, tv', e3, b2, b2', t2, f2, r2, w2'⟩ := clone_src (m := m+2) (n := n1) (l := rdText B) (v := .sl p1 16 (rdLen B) (B.length - 16) ex1 1) (h := h1) (.inr (.inr ⟨p1, 16, B.length - 16, ex1, B, false, none, by rw [rdText, CO (by omega)], gB, by rw [rdText, CO (by omega)]; omega, by rw [rdText, CO (by omega)]⟩)) (fun p hp => by
      obtain ⟨_, _, _, e⟩ := hp; obtain ⟨rfl, _⟩ := V.sl.inj e
      rcases q1 with rfl | q1 <;> omega) (by rw [rdText, CO (by omega)]; omega) (by omega) av (fun q hq => Nat.lt_of_lt_of_le (D.la q hq) b1)
    have hs2 := (f2 sp (by omega)).trans hs1
    have sT:∀ (p:K4) (off:Nat) (h:Heap) (κ:Heap->R), Bt (.ptr p off) tv' h κ=Ta (A9 p h) h p off tv' κ := by
      rcases w2' with rfl | ⟨_, _, _, rfl⟩
      · exact fun p off h κ => O7 _ _ _ _ _
      · exact fun p off h κ => Ra _ _ _ _ _ _ _ _ _ _
    refine ⟨Af sp h2 (some (.c (.l (spC f tv' (rdTurn B) i 0)) false none)), n2, tv', ?_, by omega, by omega, ?_⟩
    · rw [show m+2+1=m+3 from rfl] at e3
      unfold opB
      rcases hfd with rfl | hfd
      · simp (config := {maxSteps := 3000000}) (disch := omega) only [qa,g0,g1,g2,g3,g4,g5,g6,g7,g8,g9,BB,BC,Bq,BA,By,Bw,BD,BH,Bp,BK,w0,w1,w2,w3,w4,w5,w6,w7,w8,w9,BF,Bz,Bx,BE,BI,Bv,BG,BJ,Bu,BL,Mk,Nat.reduceAdd,Nat.reduceSub,Nat.reduceMul,Nat.reduceMod,Nat.reduceDiv,Q0,U,hmul,hmin,e1,e2,e3,hs1,hs2,sT,Fe,Fg,q_tf,q_ff,q_gdU]
      · have hg:decide (turn<rdTurn B)=true := decide_eq_true hfd
        cases fd
        · simp (config := {maxSteps := 3000000}) (disch := omega) only [qa,g0,g1,g2,g3,g4,g5,g6,g7,g8,g9,BB,BC,Bq,BA,By,Bw,BD,BH,Bp,BK,w0,w1,w2,w3,w4,w5,w6,w7,w8,w9,BF,Bz,Bx,BE,BI,Bv,BG,BJ,Bu,BL,Mk,Nat.reduceAdd,Nat.reduceSub,Nat.reduceMul,Nat.reduceMod,Nat.reduceDiv,Q0,U,hmul,hmin,e1,e2,e3,hs1,hs2,sT,Fe,Fg,q_tf,q_ff,q_gdU]
        · simp (config := {maxSteps := 3000000}) (disch := omega) only [qa,g0,g1,g2,g3,g4,g5,g6,g7,g8,g9,BB,BC,Bq,BA,By,Bw,BD,BH,Bp,BK,w0,w1,w2,w3,w4,w5,w6,w7,w8,w9,BF,Bz,Bx,BE,BI,Bv,BG,BJ,Bu,BL,Mk,Nat.reduceAdd,Nat.reduceSub,Nat.reduceMul,Nat.reduceMod,Nat.reduceDiv,Q0,U,hmul,hmin,e1,e2,e3,hs1,hs2,sT,Fe,Fg,q_tf,q_ff,q_gdU,hg]
    · have ne:∀ q:K4, q.toN<n0.toN->q≠sp := fun q hq => K4.ne_of_lt (by omega)
      have k:∀ q:K4, q.toN<n0.toN->A9 q (Af sp h2 (some (.c (.l (spC f tv' (rdTurn B) i 0)) false none)))=A9 q h1 := fun q hq => (A6 _ _ (ne q hq).symm).trans (f2 q (by omega))
      exact ⟨(k f lf).trans y1, (k d ld).trans D1.hd, (k x lx).trans D1.hx, D1.own.frame (k pc lp), A7 _ _ _, t2.frame (Nat.le_refl _) fun p hp hq => ⟨A6 _ _ (hq sp D.sa).symm, hq⟩, D.fa, D.sa, fun q hq => Nat.lt_of_lt_of_le (D1.la q hq) b2, fun q hq => (AB (by omega) _ _).trans (r2 D1.fr q hq), fun q hq hqf => (k q hq).trans (D1.fo q hq hqf), lf, ld, lx, lp, l0, by omega, D.nd, D.nx, D.np⟩
  · refine ⟨h1, n1, ?_, b1, by omega, D1⟩
    unfold opB
    rcases hno with hno | ⟨rfl, hno⟩
    · rw [hno] at e2
      simp (config := {maxSteps := 3000000}) (disch := omega) only [qa,g0,g1,g2,g3,g4,g5,g6,g7,g8,g9,BB,BC,Bq,BA,By,Bw,BD,BH,Bp,BK,w0,w1,w2,w3,w4,w5,w6,w7,w8,w9,BF,Bz,Bx,BE,BI,Bv,BG,BJ,Bu,BL,Mk,Nat.reduceAdd,Nat.reduceSub,Nat.reduceMul,Nat.reduceMod,Nat.reduceDiv,Q0,U,hmul,hmin,e1,e2,Fe,Fg,q_tf,q_ff,q_gdU]
    · cases hok:rdOK B
      · rw [hok] at e2
        simp (config := {maxSteps := 3000000}) (disch := omega) only [qa,g0,g1,g2,g3,g4,g5,g6,g7,g8,g9,BB,BC,Bq,BA,By,Bw,BD,BH,Bp,BK,w0,w1,w2,w3,w4,w5,w6,w7,w8,w9,BF,Bz,Bx,BE,BI,Bv,BG,BJ,Bu,BL,Mk,Nat.reduceAdd,Nat.reduceSub,Nat.reduceMul,Nat.reduceMod,Nat.reduceDiv,Q0,U,hmul,hmin,e1,e2,Fe,Fg,q_tf,q_ff,q_gdU]
      · obtain ⟨rfl, k3, rfl⟩ := k2 hok
        rw [hok] at e2
        have hg:decide (turn<rdTurn B)=false := decide_eq_false (by omega)
        simp (config := {maxSteps := 3000000}) (disch := omega) only [qa,g0,g1,g2,g3,g4,g5,g6,g7,g8,g9,BB,BC,Bq,BA,By,Bw,BD,BH,Bp,BK,w0,w1,w2,w3,w4,w5,w6,w7,w8,w9,BF,Bz,Bx,BE,BI,Bv,BG,BJ,Bu,BL,Mk,Nat.reduceAdd,Nat.reduceSub,Nat.reduceMul,Nat.reduceMod,Nat.reduceDiv,Q0,U,hmul,hmin,e1,e2,hs1,Fe,Fg,q_tf,q_ff,q_gdU,hg]
theorem opB_out {m:Nat} {h:Heap} {n f sp:K4} {fd:Bool} :
    opB (Ap tab m) (.mk (.mk (.ptr f 0) (.str 1 65) (.nil .ptr) (.int .i64 0)) (.mk (.int .i64 8192) (.ptr sp 0) (.bool fd) (.int .i64 2)) Q0 Q0 Q0 Q0 Q0 Q0) h n = .ok (.exit 0) (.mk (.mk (.ptr f 0) (.str 1 65) (.nil .ptr) (.int .i64 0)) (.mk (.int .i64 8192) (.ptr sp 0) (.bool fd) (.int .i64 2)) Q0 Q0 Q0 Q0 Q0 Q0) h n := by
  unfold opB
  simp (disch := omega) only [qa,g0,g1,g2,g3,g4,g5,g6,g7,g8,g9,BB,BC,Bq,BA,By,Bw,BD,BH,Bp,BK,w0,w1,w2,w3,w4,w5,w6,w7,w8,w9,BF,Bz,Bx,BE,BI,Bv,BG,BJ,Bu,BL,Mk,Nat.reduceAdd,Nat.reduceSub,Nat.reduceMul,Nat.reduceMod,Nat.reduceDiv,Q0,U]
theorem open_ok {m:Nat} {h:Heap} {n f d x pc:K4} {room rd calls fl b k cur turn:Nat} {lw w cv sv dv:V} {bs l:List UInt8} {av:List K4}
    (hf:A9 f h=some (.c (.l (fsC room rd calls fl (.map d) lw w)) false none)) (hd:A9 d h=some (.m [(.str 1 65, .ptr x 0)] [b] k)) (hx:A9 x h=some (.c (.l [cv, sv, dv]) false none)) (ho:HP pc h cv bs) (hbs:bs.length=8192) (hfr:AH h n)
    (lf:f.toN<n.toN) (ld:d.toN<n.toN) (lx:x.toN<n.toN) (lp:pc.toN<n.toN) (nd:d≠f) (nx:x≠f) (np:pc≠f) (hn:n.toN<55000) (hrd:rd<90000000) (fa:f∈av) (la:∀ q∈av, q.toN<n.toN) (hcur:cur≤1) (ht0:0<turn) (ht:turn<18446744073709551616)
    (hC:rdOK ((bs.drop (cur*4096)).take 4096)=true) (hC2:rdTurn ((bs.drop (cur*4096)).take 4096)=turn) (hC3:rdText ((bs.drop (cur*4096)).take 4096)=l) (hO:rdOK ((bs.drop ((1 - cur)*4096)).take 4096)=true->rdTurn ((bs.drop ((1 - cur)*4096)).take 4096)<turn) :
    ∃ h' n' sp tv', Ap tab (m+4) ⟨.d0, .d2, .d2⟩ [.ptr f 0, .str 1 65] h n = .rv (.tup [.ptr sp 0, .int .i64 0]) h' n'∧n.toN≤n'.toN∧n'.toN≤n.toN+20∧(∀ q:K4, q.toN<n.toN->q≠f->A9 q h'=A9 q h) ∧
      A9 f h'=some (.c (.l (fsC room (rd+8192) calls fl (.map d) lw w)) false none)∧A9 sp h'=some (.c (.l (spC f tv' turn cur turn)) false none)∧At h' n' (sp::av) tv' l∧n.toN≤sp.toN∧sp.toN<n'.toN∧AH h' n' := by
  have u1 := K4.up_toN (p := n) (by omega)
  have hS := size_ok (m := m+2) (n := n) hf hd hx ho (by omega)
  rw [hbs, show m+2+1=m+3 from rfl] at hS
  have D0:OS (Af n h (some (.c (.l (spC f (.nil .sl) 0 0 0)) false none))) n.up f d x pc n room rd calls fl b k lw w bs cv sv dv (.nil .sl) 0 0 [] h n (n::av) :=
    ⟨(Am lf _ _).trans hf, (Am ld _ _).trans hd, (Am lx _ _).trans hx, ho.frame (Am lp _ _), A7 _ _ _, .inl ⟨rfl, rfl⟩, List.mem_cons_of_mem _ fa, List.mem_cons_self, fun q hq => by
      rcases List.mem_cons.1 hq with rfl | hq
      · omega
      · have := la q hq; omega, fun q hq => (AB (by omega) _ _).trans (hfr q (by omega)), fun q hq _ => Am hq _ _, lf, ld, lx, lp, Nat.le_refl _, by omega, nd, nx, np⟩
  have key:∃ h' n' tv', DX (opB (Ap tab (m+3))) 1000000000 (.mk (.mk (.ptr f 0) (.str 1 65) (.nil .ptr) (.int .i64 0)) (.mk (.int .i64 8192) (.ptr n 0) (.bool false) (.int .i64 0)) Q0 Q0 Q0 Q0 Q0 Q0) (Af n h (some (.c (.l (spC f (.nil .sl) 0 0 0)) false none))) n.up = .ok (.exit 0) (.mk (.mk (.ptr f 0) (.str 1 65) (.nil .ptr) (.int .i64 0)) (.mk (.int .i64 8192) (.ptr n 0) (.bool true) (.int .i64 2)) Q0 Q0 Q0 Q0 Q0 Q0) h' n' ∧
      n'.toN≤n.toN+13∧n.up.toN≤n'.toN∧OS h' n' f d x pc n room (rd+8192) calls fl b k lw w bs cv sv dv tv' cur turn l h n (n::av) := by
    have A0 := opB_in (m := m) (i := 0) (fd := false) D0 hbs (by omega) (by omega) (by omega) (by omega)
    rcases (by omega:cur=0∨cur=1) with rfl | rfl
    · obtain ⟨h1, n1, tv1, e1, b1, b1', D1⟩ := A0.1 hC (.inl rfl)
      rw [hC2, hC3] at D1
      have A1 := opB_in (m := m) (i := 1) (fd := true) D1 hbs (by omega) (by omega) (by omega) ht
      have hno:rdOK ((bs.drop (1*4096)).take 4096)=false∨(true=true∧rdTurn ((bs.drop (1*4096)).take 4096)≤turn) := by
        cases hc:rdOK ((bs.drop (1*4096)).take 4096)
        · exact .inl rfl
        · exact .inr ⟨rfl, Nat.le_of_lt (hO hc)⟩
      obtain ⟨h2, n2, e2, b2, b2', D2⟩ := A1.2 hno
      refine ⟨h2, n2, tv1, ?_, by omega, by omega, D2⟩
      rw [show (1000000000:Nat)=999999999+1 from rfl, E8, e1, H3, show (999999999:Nat)=999999998+1 from rfl, E8, e2, H3, show (999999998:Nat)=999999997+1 from rfl, E8, opB_out, My]
    · cases hc:rdOK ((bs.drop (0*4096)).take 4096)
      · obtain ⟨h1, n1, e1, b1, b1', D1⟩ := A0.2 (.inl hc)
        have A1 := opB_in (m := m) (i := 1) (fd := false) D1 hbs (by omega) (by omega) (by omega) (by omega)
        obtain ⟨h2, n2, tv2, e2, b2, b2', D2⟩ := A1.1 hC (.inl rfl)
        rw [hC2, hC3] at D2
        refine ⟨h2, n2, tv2, ?_, by omega, by omega, D2⟩
        rw [show (1000000000:Nat)=999999999+1 from rfl, E8, e1, H3, show (999999999:Nat)=999999998+1 from rfl, E8, e2, H3, show (999999998:Nat)=999999997+1 from rfl, E8, opB_out, My]
      · obtain ⟨h1, n1, tv1, e1, b1, b1', D1⟩ := A0.1 hc (.inl rfl)
        have hlt := hO hc
        have A1 := opB_in (m := m) (i := 1) (fd := true) D1 hbs (by omega) (by omega) (by omega) (by have := hlt; simp only [Nat.sub_self] at this; omega)
        obtain ⟨h2, n2, tv2, e2, b2, b2', D2⟩ := A1.1 hC (.inr (by rw [hC2]; exact hlt))
        rw [hC2, hC3] at D2
        refine ⟨h2, n2, tv2, ?_, by omega, by omega, D2⟩
        rw [show (1000000000:Nat)=999999999+1 from rfl, E8, e1, H3, show (999999999:Nat)=999999998+1 from rfl, E8, e2, H3, show (999999998:Nat)=999999997+1 from rfl, E8, opB_out, My]
  obtain ⟨h1, n1, tv1, e1, b1, b1', D1⟩ := key
  have hs1 := D1.hs
  generalize hR:Ap tab (m+4) ⟨.d0, .d2, .d2⟩ [.ptr f 0, .str 1 65] h n=R0
  rw [call2_at, show Bh ⟨.d0, .d2, .d2⟩ tab=some x34 from rfl, x34_L, x34L] at hR
  simp only [Q0] at e1
  simp (config := {maxSteps := 3000000}) (disch := omega) only [qa,g0,g1,g2,g3,g4,g5,g6,g7,g8,g9,BB,BC,Bq,BA,By,Bw,BD,BH,Bp,BK,w0,w1,w2,w3,w4,w5,w6,w7,w8,w9,BF,Bz,Bx,BE,BI,Bv,BG,BJ,Bu,BL,Mk,Nat.reduceAdd,Nat.reduceSub,Nat.reduceMul,Nat.reduceMod,Nat.reduceDiv,Q0,U,en1,hS,F3] at hR
  rw [show iL 0 = .int .u64 0 from rfl] at hR
  rw [show (1000000000:Nat)=999999999+1 from rfl, E8] at e1
  rw [e1] at hR
  simp (config := {maxSteps := 3000000}) (disch := omega) only [qa,g0,g1,g2,g3,g4,g5,g6,g7,g8,g9,BB,BC,Bq,BA,By,Bw,BD,BH,Bp,BK,w0,w1,w2,w3,w4,w5,w6,w7,w8,w9,BF,Bz,Bx,BE,BI,Bv,BG,BJ,Bu,BL,Mk,Nat.reduceAdd,Nat.reduceSub,Nat.reduceMul,Nat.reduceMod,Nat.reduceDiv,Q0,U,hs1] at hR
  subst hR
  have ne:∀ q:K4, q.toN<n.toN->q≠n := fun q hq => K4.ne_of_lt (by omega)
  have ls := D1.ls
  refine ⟨_, n1, n, tv1, rfl, by omega, by omega, fun q hq hqf => ?_, ?_, A7 _ _ _, D1.ot.frame (Nat.le_refl _) fun p hp hq => ⟨A6 _ _ (hq n List.mem_cons_self).symm, hq⟩, Nat.le_refl _, ls, fun q hq => (AB (by omega) _ _).trans (D1.fr q hq)⟩
  · rw [A6 _ _ (ne q hq).symm]; exact D1.fo q hq hqf
  · rw [A6 _ _ (ne f lf).symm]; exact D1.hf
theorem may_A {m:Nat} {h:Heap} {n:K4}:Ap tab (m+1) ⟨.d0, .d3, .d3⟩ [.str 1 65] h n = .rv (.bool true) h n := by kernel_rfl
theorem may_N {m:Nat} {h:Heap} {n:K4}:Ap tab (m+1) ⟨.d0, .d3, .d3⟩ [.str 3 5719374] h n = .rv (.bool true) h n := by kernel_rfl
theorem size_none {m:Nat} {f d:K4} {h:Heap} {n:K4} {a c room rd calls fl:Nat} {lw w:V} (hf:A9 f h=some (.c (.l (fsC room rd calls fl (.map d) lw w)) false none)) (hd:A9 d h=some (.m [] [] 0)) :
    Ap tab (m+1) ⟨.d0, .d2, .d5⟩ [.ptr f 0, .str a c] h n = .rv (.int .i64 18446744073709551615) h n := by
  rw [call2_at, show Bh ⟨.d0, .d2, .d5⟩ tab=some x37 from rfl, x37]
  simp (disch := omega) only [qa,g0,g1,g2,g3,g4,g5,g6,g7,g8,g9,BB,BC,Bq,BA,By,Bw,BD,BH,Bp,BK,w0,w1,w2,w3,w4,w5,w6,w7,w8,w9,BF,Bz,Bx,BE,BI,Bv,BG,BJ,Bu,BL,Mk,Nat.reduceAdd,Nat.reduceSub,Nat.reduceMul,Nat.reduceMod,Nat.reduceDiv,Q0,U,en1,hf,hd]
theorem bA0 (κ:V->R):Dk (.str 1 65) (.str 0 0) κ=κ (.bool false) := by kernel_rfl
theorem bAN (κ:V->R):C0 (.str 1 65) (.str 3 5719374) κ=κ (.bool true) := by kernel_rfl
/-- A second record behind the first one. -/
theorem app_3 {p:K4} {h:Heap} {a b c d e f:V} (hp:A9 p h=some (.c (.l [a, b, c]) false none)) {n:K4} (hn:n.toN<65000) (κ:KV) :
    Ck 3 40 (.sl p 0 1 1 false 3) 1 (.l [d, e, f]) h n κ=κ (.sl n 0 2 2 false 3) (Af n (Af p h (some (.c (.l [a, b, c]) true none))) (some (.c (.l [a, b, c, d, e, f]) false (some p)))) n.up := by
  show LC p h (fun cs sup prev => Aa (Nat.mul 1 3) fun l => AZ cs 0 l fun a => Ss a (.l [d, e, f]) fun z => br sup (.fail "") (Aa (Nat.add 0 l) fun j => AZ cs 0 j fun old => GP prev h fun h => EE p h (some (.c old true none)) fun h => E4 h n (.c z false (some p)) fun h' n' => κ (.sl n 0 2 2 false 3) h' n'))=_
  rw [Ei, Jh hp, A8]
  show br false (.fail "") (Aa (Nat.add 0 (Nat.mul 1 3)) fun j => AZ (.l [a, b, c]) 0 j fun old => GP none h fun h => EE p h (some (.c old true none)) fun h => E4 h n (.c (.l [a, b, c, d, e, f]) false (some p)) fun h' n' => κ (.sl n 0 2 2 false 3) h' n')=_
  rw [Ak, A8]
  show GP none h (fun h => EE p h (some (.c (.l [a, b, c]) true none)) fun h => E4 h n (.c (.l [a, b, c, d, e, f]) false (some p)) fun h' n' => κ (.sl n 0 2 2 false 3) h' n')=_
  rw [Ge, AN, EA (by omega)]; rfl
theorem do_ren {m:Nat} {d x:K4} {h:Heap} {n:K4} {b k:Nat} (hd:A9 d h=some (.m [(.str 3 5719374, .ptr x 0)] [b] k)) (hdn:d.toN<n.toN) (hn:n.toN<60000) :
    Ap tab (m+1) ⟨.d0, .d3, .d9⟩ [.map d, .agg [.str 3 5719374, .str 1 65, .nil .ptr]] h n = .rv (.tup []) (Af d (Af n h (some (.c (.l [.str 3 5719374, .str 1 65, .nil .ptr]) false none))) (some (.m [(.str 1 65, .ptr x 0)] [k] (k+1)))) n.up := by
  rw [call2_at, show Bh ⟨.d0, .d3, .d9⟩ tab=some x57 from rfl, x57]
  simp (config := {maxSteps := 3000000}) (disch := omega) only [qa,g0,g1,g2,g3,g4,g5,g6,g7,g8,g9,BB,BC,Bq,BA,By,Bw,BD,BH,Bp,BK,w0,w1,w2,w3,w4,w5,w6,w7,w8,w9,BF,Bz,Bx,BE,BI,Bv,BG,BJ,Bu,BL,Mk,Nat.reduceAdd,Nat.reduceSub,Nat.reduceMul,Nat.reduceMod,Nat.reduceDiv,Q0,U,en1,hd,bA0,bAN]
theorem change_ren {m:Nat} {f d x pw:K4} {h:Heap} {n:K4} {b k room rd calls fl:Nat} {l r1 r2 r3:V} (hf:A9 f h=some (.c (.l (fsC room rd calls fl (.map d) l (.sl pw 0 1 1 false 3))) false none)) (hd:A9 d h=some (.m [(.str 3 5719374, .ptr x 0)] [b] k)) (hw:A9 pw h=some (.c (.l [r1, r2, r3]) false none)) (hfr:AH h n)
    (hfn:f.toN<n.toN) (hdn:d.toN<n.toN) (ndf:d≠f) (hpn:pw.toN<n.toN) (npf:pw≠f) (npd:pw≠d) (hn:n.toN<58000) :
    ∃ h' n' wv, Ap tab (m+2) ⟨.d0, .d3, .d4⟩ [.ptr f 0, .agg [.str 3 5719374, .str 1 65, .nil .ptr]] h n = .rv (.int .i64 0) h' n'∧n.toN≤n'.toN∧n'.toN≤n.toN+60∧AH h' n'∧(∀ q:K4, q.toN<n.toN->q≠f->q≠d->q≠pw->A9 q h'=A9 q h) ∧
      A9 d h'=some (.m [(.str 1 65, .ptr x 0)] [k] (k+1))∧A9 f h'=some (.c (.l (fsC room rd calls fl (.map d) l wv)) false none) := by
  have u1 := K4.up_toN (p := n) (by omega)
  have u2 := K4.up_toN (p := n.up) (by omega)
  have v1 := K4.up16_toN (p := n.up.up) (by omega)
  have v2 := K4.up16_toN (p := n.up.up.up16) (by omega)
  have v3 := K4.pl_toN (p := n.up.up) (by omega) .d0
  have u3 := K4.up_toN (p := n.up.up.up16.up16) (by omega)
  have d0:D.d0.toN=0 := rfl
  rw [d0] at v3
  generalize hR:Ap tab (m+2) ⟨.d0, .d3, .d4⟩ [.ptr f 0, .agg [.str 3 5719374, .str 1 65, .nil .ptr]] h n=R0
  rw [call2_at, show Bh ⟨.d0, .d3, .d4⟩ tab=some x52 from rfl, x52] at hR
  simp (disch := omega) only [qa,g0,g1,g2,g3,g4,g5,g6,g7,g8,g9,BB,BC,Bq,BA,By,Bw,BD,BH,Bp,BK,w0,w1,w2,w3,w4,w5,w6,w7,w8,w9,BF,Bz,Bx,BE,BI,Bv,BG,BJ,Bu,BL,Mk,Nat.reduceAdd,Nat.reduceSub,Nat.reduceMul,Nat.reduceMod,Nat.reduceDiv,Q0,U,en1,hf] at hR
  have e1 := do_ren (m := m) (d := d) (x := x) (h := Af n h (some (.c (.l [.str 3 5719374, .str 1 65, .nil .ptr]) false none))) (n := n.up) (b := b) (k := k) ((Am hdn _ _).trans hd) (by omega) (by omega)
  rw [e1] at hR
  have h1:∀ y z:Option Ob, A9 (n.up.up.up16.pl .d0) (Af d (Af n.up (Af n h y) z) (some (.m [(.str 1 65, .ptr x 0)] [k] (k+1))))=none := fun y z => by
    simp (disch := omega) only [AB]; exact hfr _ (by omega)
  have hf1:∀ y z u:Option Ob, A9 f (Af d (Af n.up (Af n h y) z) u)=some (.c (.l (fsC room rd calls fl (.map d) l (.sl pw 0 1 1 false 3))) false none) := fun y z u => by
    rw [A6 _ _ ndf]; simp (disch := omega) only [Am]; exact hf
  simp (disch := omega) only [qa,g0,g1,g2,g3,g4,g5,g6,g7,g8,g9,BB,BC,Bq,BA,By,Bw,BD,BH,Bp,BK,w0,w1,w2,w3,w4,w5,w6,w7,w8,w9,BF,Bz,Bx,BE,BI,Bv,BG,BJ,Bu,BL,Mk,Nat.reduceAdd,Nat.reduceSub,Nat.reduceMul,Nat.reduceMod,Nat.reduceDiv,Q0,U,hf1,h1] at hR
  have hw1:∀ y z u v:Option Ob, A9 pw (Af (n.up.up.up16.pl .d0) (Af d (Af n.up (Af n h y) z) u) v)=some (.c (.l [r1, r2, r3]) false none) := fun y z u v => by
    rw [Am (by omega), A6 _ _ npd.symm]; simp (disch := omega) only [Am]; exact hw
  rw [app_3 (hw1 _ _ _ _) (by omega)] at hR
  have hf2:∀ y z u v w t:Option Ob, A9 f (Af n.up.up.up16.up16 (Af pw (Af (n.up.up.up16.pl .d0) (Af d (Af n.up (Af n h y) z) u) v) w) t)=some (.c (.l (fsC room rd calls fl (.map d) l (.sl pw 0 1 1 false 3))) false none) := fun y z u v w t => by
    rw [Am (by omega), A6 _ _ npf, Am (by omega)]; exact hf1 _ _ _
  simp (disch := omega) only [qa,g0,g1,g2,g3,g4,g5,g6,g7,g8,g9,BB,BC,Bq,BA,By,Bw,BD,BH,Bp,BK,w0,w1,w2,w3,w4,w5,w6,w7,w8,w9,BF,Bz,Bx,BE,BI,Bv,BG,BJ,Bu,BL,Mk,Nat.reduceAdd,Nat.reduceSub,Nat.reduceMul,Nat.reduceMod,Nat.reduceDiv,Q0,U,hf2] at hR
  subst hR
  refine ⟨_, _, _, rfl, by omega, by omega, fun q hq => ?_, fun q hq h2 h3 h4 => ?_, ?_, A7 _ _ _⟩
  · simp (disch := omega) only [AB]; exact hfr q (by omega)
  · rw [A6 _ _ (Ne.symm h2), Am (by omega), A6 _ _ (Ne.symm h4), Am (by omega), A6 _ _ (Ne.symm h3)]
    simp (disch := omega) only [Am]
  · rw [A6 _ _ ndf.symm, Am (by omega), A6 _ _ npd, Am (by omega), A7]
theorem rename_ok {m:Nat} {f d x pw:K4} {h:Heap} {n:K4} {b k room rd calls fl fl':Nat} {l r1 r2 r3:V} (hbg:Bg fl fl') (hc:calls<1000000) (hf:A9 f h=some (.c (.l (fsC room rd calls fl (.map d) l (.sl pw 0 1 1 false 3))) false none)) (hd:A9 d h=some (.m [(.str 3 5719374, .ptr x 0)] [b] k)) (hw:A9 pw h=some (.c (.l [r1, r2, r3]) false none)) (hfr:AH h n)
    (hfn:f.toN<n.toN) (hdn:d.toN<n.toN) (ndf:d≠f) (hpn:pw.toN<n.toN) (npf:pw≠f) (npd:pw≠d) (hn:n.toN<58000) :
    ∃ h' n' wv, Ap tab (m+4) ⟨.d0, .d4, .d0⟩ [.ptr f 0, .str 3 5719374, .str 1 65] h n = .rv (.int .i64 0) h' n'∧n.toN≤n'.toN∧n'.toN≤n.toN+60∧AH h' n'∧(∀ q:K4, q.toN<n.toN->q≠f->q≠d->q≠pw->A9 q h'=A9 q h) ∧
      A9 d h'=some (.m [(.str 1 65, .ptr x 0)] [k] (k+1))∧A9 f h'=some (.c (.l (fsC room rd (calls+1) fl' (.map d) l wv)) false none) := by
  have hd1:A9 d (Af f h (some (.c (.l (fsC room rd (calls+1) fl' (.map d) l (.sl pw 0 1 1 false 3))) false none)))=some (.m [(.str 3 5719374, .ptr x 0)] [b] k) := (A6 _ _ ndf.symm).trans hd
  obtain ⟨h', n', wv, e1, b1, b1', f1, o1, d1, y1⟩ := change_ren (m := m+1) (n := n) (A7 f h _) hd1 ((A6 _ _ npf.symm).trans hw) (fun q hq => (A6 _ _ (K4.ne_of_lt (by omega))).trans (hfr q hq)) hfn hdn ndf hpn npf npd hn
  generalize hR:Ap tab (m+4) ⟨.d0, .d4, .d0⟩ [.ptr f 0, .str 3 5719374, .str 1 65] h n=R0
  rw [call2_at, show Bh ⟨.d0, .d4, .d0⟩ tab=some x64 from rfl, x64] at hR
  simp (config := {maxSteps := 3000000}) (disch := omega) only [qa,g0,g1,g2,g3,g4,g5,g6,g7,g8,g9,BB,BC,Bq,BA,By,Bw,BD,BH,Bp,BK,w0,w1,w2,w3,w4,w5,w6,w7,w8,w9,BF,Bz,Bx,BE,BI,Bv,BG,BJ,Bu,BL,Mk,Nat.reduceAdd,Nat.reduceSub,Nat.reduceMul,Nat.reduceMod,Nat.reduceDiv,Q0,U,en0] at hR
  rw [begin_bg hbg hf hc] at hR
  simp (config := {maxSteps := 3000000}) (disch := omega) only [qa,g0,g1,g2,g3,g4,g5,g6,g7,g8,g9,BB,BC,Bq,BA,By,Bw,BD,BH,Bp,BK,w0,w1,w2,w3,w4,w5,w6,w7,w8,w9,BF,Bz,Bx,BE,BI,Bv,BG,BJ,Bu,BL,Mk,Nat.reduceAdd,Nat.reduceSub,Nat.reduceMul,Nat.reduceMod,Nat.reduceDiv,Q0,U,hd1] at hR
  rw [may_A (m := m+2)] at hR
  rw [show m+1+2=m+3 from rfl] at e1
  simp (config := {maxSteps := 3000000}) (disch := omega) only [qa,g0,g1,g2,g3,g4,g5,g6,g7,g8,g9,BB,BC,Bq,BA,By,Bw,BD,BH,Bp,BK,w0,w1,w2,w3,w4,w5,w6,w7,w8,w9,BF,Bz,Bx,BE,BI,Bv,BG,BJ,Bu,BL,Mk,Nat.reduceAdd,Nat.reduceSub,Nat.reduceMul,Nat.reduceMod,Nat.reduceDiv,Q0,U,e1] at hR
  subst hR
  exact ⟨_, _, wv, rfl, b1, b1', f1, fun q hq h2 h3 h4 => (o1 q hq h2 h3 h4).trans (A6 _ _ (Ne.symm h2)), d1, y1⟩
theorem mks_z {n:K4} (hn:n.toN<65535) (h:Heap) (κ:KV):KD 1 true [.int .u8 0] (.int .i64 8192) (.int .i64 8192) h n κ=κ (.sl n 0 8192 8192 true 1) (Af n h (some (.c (cb (List.replicate 8192 0)) false none))) n.up := by
  rw [Yc hn (Nat.le_refl _) (by decide) _ rfl .i64 .i64 (by decide) (by decide)]
  unfold cb
  rw [Il, List.length_replicate]
/-- What a new slots file holds. -/
noncomputable def imgL (l:List UInt8):List UInt8 := slotL 1 l++List.replicate (8192 - (16+l.length)) 0
theorem imgL_len {l:List UInt8} (hl:l.length≤4080):(imgL l).length=8192 := by rw [imgL, List.length_append, slotL_len, List.length_replicate]; omega
theorem screate_ok {m:Nat} {f d:K4} {h:Heap} {n:K4} {room rd calls:Nat} {l0:V} {v:V} {l:List UInt8}
    (hf:A9 f h=some (.c (.l (fsC room rd calls 18446744073709551615 (.map d) l0 (.nil .sl))) false none)) (hd:A9 d h=some (.m [] [] 0)) (hfr:AH h n) (hfn:f.toN<n.toN) (hdf:d.toN<f.toN)
    (hv:De v l h) (hvp:∀ p:K4, (∃ off cap ex, v = .sl p off l.length cap ex 1)->p.toN<n.toN∧p≠f∧p≠d) (hl:l.length≤4080) (hr1:8192≤room) (hr2:room≤4194304) (hc:calls<900000) (hn:n.toN<50000) :
    ∃ h' n' x dm pc lm sp cv sv tv, Ap tab (m+12) ⟨.d0, .d2, .d0⟩ [.ptr f 0, .str 1 65, v] h n = .rv (.tup [.ptr sp 0, .int .i64 0]) h' n'∧n.toN≤n'.toN∧n'.toN≤n.toN+240 ∧
      SS h' n' f d x dm pc lm sp room rd (calls+5) 18446744073709551615 1 2 (imgL l) (imgL l) cv sv tv 0 1 1 l∧A9 dm h'=some (.m [] [] 0) := by
  have u1 := K4.up_toN (p := n) (by omega)
  have hsl:(slotL 1 l).length=16+l.length := slotL_len _ _
  have el := hv.len (by omega)
  have hS := size_none (m := m+10) (n := n) (a := 1) (c := 65) hf hd
  generalize hA:Af n h (some (.c (cb (List.replicate 8192 0)) false none))=A
  have aZ:A9 n A=some (.c (cb (List.replicate 8192 0)) false none) := by rw [←hA, A7]
  have aO:∀ q:K4, q.toN<n.toN->A9 q A=A9 q h := fun q hq => by rw [←hA]; exact Am hq _ _
  have aF:AH A n.up := fun q hq => by rw [←hA]; exact (AB (by omega) _ _).trans (hfr q (by omega))
  have hvA:De v l A := hv.frame fun p hp => aO p (hvp p hp).1
  obtain ⟨c1, h1, n1, e1, o1, a1, a2, f1, r1⟩ := slot_ok (m := m+8) (turn := 1) (n := n.up) (by omega) hvA (fun p hp => by have := (hvp p hp).1; omega) (by omega) (by omega)
  have hn1:n.up.toN<n1.toN := by
    rcases o1 with ⟨_, e⟩ | ⟨p, ex, pr, _, _, q1, q2, _⟩
    · rw [e] at hsl; simp only [List.length_nil] at hsl; omega
    · omega
  have hcp := PZ o1.src (by rw [hsl]; omega) (p := n) (off := 0) (len := 8192) (cap := 8192) (ex := true) (bs := List.replicate 8192 0) (pr := none) ((f1 n (by omega)).trans aZ) (by rw [hsl]; omega) (by rw [hsl, List.length_replicate]; omega) (by rw [hsl]; omega)
  have himg:(List.replicate 8192 (0:UInt8)).take 0++(slotL 1 l++(List.replicate 8192 (0:UInt8)).drop (0+(slotL 1 l).length))=imgL l := by
    rw [List.take_zero, List.nil_append, List.drop_replicate, hsl, Nat.zero_add]; rfl
  rw [himg] at hcp
  have il := imgL_len hl
  generalize hB:Af n (F4 none h1) (some (.c (cb (imgL l)) false none))=B at hcp
  have bZ:A9 n B=some (.c (cb (imgL l)) false none) := by rw [←hB, A7]
  have bO:∀ q:K4, q≠n->A9 q B=A9 q h1 := fun q hq => by rw [←hB]; exact A6 _ _ (Ne.symm hq)
  have bO2:∀ q:K4, q.toN<n.toN->A9 q B=A9 q h := fun q hq => (bO q (K4.ne_of_lt hq)).trans ((f1 q (by omega)).trans (aO q hq))
  have bF:AH B n1 := fun q hq => (bO q (K4.ne_of_lt (by omega)).symm).trans (r1 aF q hq)
  -- NEW is Kh, written, synced, renamed
  obtain ⟨h2, n2, e2, a3, a4, r2, f2, d2, u2, k2, x2, m2, pw, y2, pw1, pw2, w2'⟩ := create_ok (m := m+7) (n := n1) (a := 3) (c := 5719374) (.inl ⟨rfl, rfl⟩) (by omega) (fun h n => may_N (m := m+9)) ((bO2 f hfn).trans hf) ((bO2 d (by omega)).trans hd) bF (by omega) hdf (by omega)
  have z2 := (f2 n (by omega) (K4.ne_of_lt (by omega)).symm (K4.ne_of_lt (by omega)).symm).trans bZ
  obtain ⟨h3, n3, pc, e3, a5, a6, r3, f3, y3, m3, k3, k3', cv, x3, o3⟩ := write_app (m := m) (n := n2) (pc := n.up) (bs := []) (v := .sl n 0 8192 8192 true 1) (l := imgL l) (.inl ⟨rfl, rfl⟩) (by omega) y2 d2 (by omega) x2 m2 IK.nil (.inl ⟨rfl, rfl⟩) (.inr (.inr ⟨n, 0, 8192, true, imgL l, false, none, by rw [il], z2, by omega, by rw [List.drop_zero, List.take_length]⟩)) hr2 (by rw [il]; simp only [List.length_nil]; omega) (by omega) (by omega) (by omega) (K4.ne_of_lt hdf) (by omega) (K4.ne_of_lt (by omega)) (by omega) (K4.ne_of_lt (by omega)) (K4.ne_of_lt (by omega)) (by omega) (K4.ne_of_lt (by omega)).symm (K4.ne_of_lt (by omega)) (K4.ne_of_lt (by omega)) (by omega)
    (fun p hp => by obtain ⟨_, _, _, e⟩ := hp; obtain ⟨rfl, _⟩ := V.sl.inj e; exact ⟨by omega, (K4.ne_of_lt (by omega)).symm, K4.ne_of_lt (by omega), K4.ne_of_lt (by omega), K4.ne_of_lt (by omega)⟩)
  rw [List.nil_append] at o3
  have d3 := (f3 d (by omega) (K4.ne_of_lt hdf) (K4.ne_of_lt (by omega)) (K4.ne_of_lt (by omega)) (K4.ne_of_lt (by omega))).trans d2
  have w3' := (f3 pw pw2 (K4.ne_of_lt (by omega)).symm (K4.ne_of_lt (by omega)).symm (K4.ne_of_lt (by omega)).symm (K4.ne_of_lt (by omega)).symm).trans w2'
  obtain ⟨h4, n4, dm', sv, ps, e4, a7, a8, r4, f4, y4, x4', k4, k4', m4, o4, q4, q4', q5⟩ := sync_ok (m := m+8) (n := n3) (.inl ⟨rfl, rfl⟩) (by omega) y3 d3 x3 o3 (by rw [il]; omega) (by omega) (by omega) (K4.ne_of_lt hdf) (by omega) (K4.ne_of_lt (by omega)) (by omega) (K4.ne_of_lt (by omega)).symm (K4.ne_of_lt (by omega)).symm (by omega)
  have d4 := (f4 d (by omega) (K4.ne_of_lt hdf) (K4.ne_of_lt (by omega))).trans d3
  have w4' := (f4 pw (by omega) (K4.ne_of_lt (by omega)).symm (K4.ne_of_lt (by omega)).symm).trans w3'
  obtain ⟨h5, n5, wv, e5, a9, a10, r5, f5, d5, y5⟩ := rename_ok (m := m+7) (n := n4) (.inl ⟨rfl, rfl⟩) (by omega) y4 d4 w4' (r4 (r3 r2)) (by omega) (by omega) (K4.ne_of_lt hdf) (by omega) (K4.ne_of_lt (by omega)).symm (K4.ne_of_lt (by omega)).symm (by omega)
  obtain ⟨h6, e6, f6, r6, l6, y6⟩ := syncdir_ok (m := m+8) (n := n5) (.inl ⟨rfl, rfl⟩) (by omega) y5 d5 (by omega) hdf (by omega)
  have u5 := K4.up_toN (p := n5) (by omega)
  have k6:∀ q:K4, q.toN<n.toN->q≠f->q≠d->A9 q h6=A9 q h := fun q h1 h2 h3 => by
    rw [f6 q (by omega) h2, f5 q (by omega) h2 h3 (K4.ne_of_lt (by omega)), f4 q (by omega) h2 (K4.ne_of_lt (by omega)), f3 q (by omega) h2 (K4.ne_of_lt (by omega)) (K4.ne_of_lt (by omega)) (K4.ne_of_lt (by omega)), f2 q (by omega) h2 h3, bO2 q h1]
  obtain ⟨h7, n7, tv, e7, a11, a12, t7, f7, r7, w7'⟩ := clone_src (m := m+10) (n := n5.up) (hv.frame (h' := h6) fun p hp => by obtain ⟨q1, q2, q3⟩ := hvp p hp; exact k6 p q1 q2 q3) (fun p hp => by have := (hvp p hp).1; omega) (by omega) (by omega) [f, d, n1.up, dm', pc, n5] (fun q hq => by
    simp only [List.mem_cons,List.not_mem_nil,or_false] at hq
    rcases hq with rfl | rfl | rfl | rfl | rfl | rfl <;> omega)
  have u7 := K4.up_toN (p := n7) (by omega)
  have sP:∀ (i:Nat) (l:List V) (κ:List V->R), AD i tv l κ=BP i l tv κ := by
    rcases w7' with rfl | ⟨_, _, _, rfl⟩
    · exact fun i l κ => KE _ _ _ _
    · exact fun i l κ => Pn _ _ _ _ _ _ _ _ _
  generalize hR:Ap tab (m+12) ⟨.d0, .d2, .d0⟩ [.ptr f 0, .str 1 65, v] h n=R0
  rw [call2_at, show Bh ⟨.d0, .d2, .d0⟩ tab=some x32 from rfl, x32] at hR
  rw [show m+10+1=m+11 from rfl] at hS e7
  rw [show m+8+3=m+11 from rfl] at e1 e4 e6
  rw [show m+7+4=m+11 from rfl] at e2 e5
  simp only [List.length_nil] at e3
  rw [show iL 1 = .int .u64 1 from rfl] at *
  simp (config := {maxSteps := 3000000}) (disch := omega) only [qa,g0,g1,g2,g3,g4,g5,g6,g7,g8,g9,BB,BC,Bq,BA,By,Bw,BD,BH,Bp,BK,w0,w1,w2,w3,w4,w5,w6,w7,w8,w9,BF,Bz,Bx,BE,BI,Bv,BG,BJ,Bu,BL,Mk,Nat.reduceAdd,Nat.reduceSub,Nat.reduceMul,Nat.reduceMod,Nat.reduceDiv,Q0,U,en0,el,hS,mks_z,hA,e1,hcp,e2,e3,e4,e5,e6,e7,sP] at hR
  subst hR
  have fin:∀ q:K4, q.toN<n4.toN->q≠f->q≠d->q≠pw->A9 q (Af n7 h7 (some (.c (.l (spC f tv 1 0 1)) false none)))=A9 q h4 := fun q h1 h2 h3 h4 => by
    rw [Am (by omega), f7 q (by omega), f6 q (by omega) h2, f5 q h1 h2 h3 h4]
  have mz:A9 dm' (Af n7 h7 (some (.c (.l (spC f tv 1 0 1)) false none)))=some (.m [] [] 0) := by rw [fin _ (by omega) (K4.ne_of_lt (by omega)).symm (K4.ne_of_lt (by omega)).symm (K4.ne_of_lt (by omega)).symm]; exact m4
  refine ⟨_, n7.up, n1.up, dm', pc, n5, n7, cv, sv, tv, rfl, by omega, by omega, ⟨?_, ?_, by omega, ?_, ?_, ⟨[], [], 0, mz, IK.nil⟩, ?_, ?_, A7 _ _ _, ?_, ?_, ?_, ?_⟩, mz⟩
  · rw [Am (by omega), f7 f (by omega)]; exact y6
  · rw [Am (by omega), f7 d (by omega), f6 d (by omega) (K4.ne_of_lt hdf)]; exact d5
  · rw [Am (by omega), f7 n5 (by omega)]; exact l6
  · rw [fin _ (by omega) (K4.ne_of_lt (by omega)).symm (K4.ne_of_lt (by omega)).symm (K4.ne_of_lt (by omega))]; exact x4'
  · exact o3.frame (by rw [fin _ (by omega) (K4.ne_of_lt (by omega)).symm (K4.ne_of_lt (by omega)).symm (K4.ne_of_lt (by omega)).symm, f4 pc (by omega) (K4.ne_of_lt (by omega)).symm (K4.ne_of_lt (by omega)).symm])
  · rcases o4 with o4 | ⟨ex, e, g⟩
    · exact .inl o4
    · rcases q5 with q5 | ⟨q5, q6⟩
      · rw [q5] at e; cases e
      · refine .inr ⟨ps, ex, e, (fin _ (by omega) (K4.ne_of_lt (by omega)).symm (K4.ne_of_lt (by omega)).symm (K4.ne_of_lt (by omega)).symm).trans g, by omega, fun q hq => ?_⟩
        simp only [List.mem_cons,List.not_mem_nil,or_false] at hq
        rcases hq with rfl | rfl | rfl | rfl | rfl | rfl | rfl
        · exact (K4.ne_of_lt (by omega)).symm
        · exact (K4.ne_of_lt (by omega)).symm
        · exact (K4.ne_of_lt (by omega)).symm
        · exact q4'
        · exact (K4.ne_of_lt (by omega)).symm
        · exact K4.ne_of_lt (by omega)
        · exact K4.ne_of_lt (by omega)
  · refine t7.frame (by omega) fun p hp hq => ⟨Am hp _ _, fun q hq2 => ?_⟩
    simp only [List.mem_cons,List.not_mem_nil,or_false] at hq2
    rcases hq2 with rfl | rfl | rfl | rfl | rfl | rfl | rfl
    · exact hq _ (by simp)
    · exact hq _ (by simp)
    · exact hq _ (by simp)
    · exact hq _ (by simp)
    · exact hq _ (by simp)
    · exact hq _ (by simp)
    · exact K4.ne_of_lt hp
  · exact fun q hq => (AB (by omega) _ _).trans (r7 (r6 r5) q (by omega))
  · simp only [List.pairwise_cons,List.mem_cons,List.not_mem_nil,or_false,forall_eq_or_imp,forall_eq,List.Pairwise.nil,and_true,false_implies,implies_true]
    have lt:∀ {p q:K4}, p.toN<q.toN->p≠q := fun h => K4.ne_of_lt h
    exact ⟨⟨(lt hdf).symm, lt (by omega), lt (by omega), lt (by omega), lt (by omega), lt (by omega)⟩, ⟨lt (by omega), lt (by omega), lt (by omega), lt (by omega), lt (by omega)⟩, ⟨lt (by omega), lt (by omega), lt (by omega), lt (by omega)⟩, ⟨(lt (by omega)).symm, lt (by omega), lt (by omega)⟩, ⟨lt (by omega), lt (by omega)⟩, lt (by omega)⟩
  · intro q hq
    simp only [List.mem_cons,List.not_mem_nil,or_false] at hq
    rcases hq with rfl | rfl | rfl | rfl | rfl | rfl | rfl <;> omega
def blk (bs:List UInt8) (j:Nat):List UInt8 := (bs.drop (j*4096)).take 4096
structure IV (bs:List UInt8) (cur turn nxt:Nat) (text:List UInt8):Prop where
  len:bs.length=8192
  c1:cur≤1
  slot:(bs.drop (cur*4096)).take (16+text.length)=slotL turn text
  tl:text.length≤4080
  ok:∀ j, j≤1->rdOK (blk bs j)=true->rdTurn (blk bs j)≤nxt
  t1:1≤turn
  tn:turn≤nxt
  nx:nxt<1000000
theorem blk_len {bs:List UInt8} {j:Nat} (h:bs.length=8192) (hj:j≤1):(blk bs j).length=4096 := CO (by omega)
theorem blk_take {bs:List UInt8} {j m:Nat} (hm:m≤4096):(blk bs j).take m=(bs.drop (j*4096)).take m := by
  unfold blk; rw [List.take_take, Nat.min_eq_left hm]
theorem slot_blk {bs l:List UInt8} {j turn:Nat} (hb:bs.length=8192) (hj:j≤1) (hl:l.length≤4080) (ht:turn<18446744073709551616) (h:(bs.drop (j*4096)).take (16+l.length)=slotL turn l) :
    rdOK (blk bs j)=true∧rdTurn (blk bs j)=turn∧rdText (blk bs j)=l := by
  obtain ⟨h1, h2, h3, _⟩ := slot_reads (l := l) (B := blk bs j) ht (by omega) (by rw [blk_take (by omega)]; exact h) (by rw [blk_len hb hj]; omega)
  exact ⟨h1, h2, h3⟩
/-- A slot is written over the other one. -/
def Cd (bs:List UInt8) (cur:Nat) (s:List UInt8):List UInt8 := bs.take ((1 - cur)*4096)++(s++bs.drop ((1 - cur)*4096+s.length))
theorem putS_len {bs s:List UInt8} {cur:Nat} (hb:bs.length=8192) (hc:cur≤1) (hs:s.length≤4096):(Cd bs cur s).length=8192 := by
  unfold Cd; rw [JW (by rcases (by omega:cur=0∨cur=1) with rfl | rfl <;> omega)]; exact hb
theorem putS_new {bs s:List UInt8} {cur:Nat} (hb:bs.length=8192) (hc:cur≤1) (hs:s.length≤4096):((Cd bs cur s).drop ((1 - cur)*4096)).take s.length=s := by
  have h1:(bs.take ((1 - cur)*4096)).length=(1 - cur)*4096 := by rw [List.length_take]; rcases (by omega:cur=0∨cur=1) with rfl | rfl <;> omega
  unfold Cd
  rw [List.drop_append_of_le_length (by omega), List.drop_of_length_le (by omega), List.nil_append, List.take_append_of_le_length (Nat.le_refl _), List.take_length]
theorem putS_old {bs s:List UInt8} {cur:Nat} (hb:bs.length=8192) (hc:cur≤1) (hs:s.length≤4096) (m:Nat) (hm:m≤4096):((Cd bs cur s).drop (cur*4096)).take m=(bs.drop (cur*4096)).take m := by
  rcases (by omega:cur=0∨cur=1) with rfl | rfl
  · unfold Cd
    rw [show (1 - 0)*4096=4096 from rfl, Nat.zero_mul, List.drop_zero, List.drop_zero, List.take_append_of_le_length (by rw [List.length_take]; omega), List.take_take, Nat.min_eq_left hm]
  · unfold Cd
    rw [show (1 - 1)*4096=0 from rfl, List.take_zero, List.nil_append, Nat.zero_add, List.drop_append, List.drop_of_length_le (l := s) (by omega), List.nil_append, List.drop_drop, show s.length+(1*4096 - s.length)=1*4096 by omega]
theorem IV.blk_new {bs text l:List UInt8} {cur turn nxt:Nat} (I:IV bs cur turn nxt text) (hl:l.length≤4080):((Cd bs cur (slotL (nxt+1) l)).drop ((1 - cur)*4096)).take (16+l.length)=slotL (nxt+1) l := by
  have := putS_new (s := slotL (nxt+1) l) I.len I.c1 (by rw [slotL_len]; omega)
  rw [slotL_len] at this; exact this
theorem IV.blk_old {bs text l:List UInt8} {cur turn nxt:Nat} (I:IV bs cur turn nxt text) (hl:l.length≤4080):blk (Cd bs cur (slotL (nxt+1) l)) cur=blk bs cur :=
  putS_old I.len I.c1 (by rw [slotL_len]; omega) 4096 (Nat.le_refl _)
theorem IV.oks {bs text l:List UInt8} {cur turn nxt:Nat} (I:IV bs cur turn nxt text) (hl:l.length≤4080) (j:Nat) (hj:j≤1) (h:rdOK (blk (Cd bs cur (slotL (nxt+1) l)) j)=true):rdTurn (blk (Cd bs cur (slotL (nxt+1) l)) j)≤nxt+1 := by
  have c := I.c1
  have n := I.nx
  by_cases hc:j=cur
  · subst hc; rw [I.blk_old hl] at h ⊢; exact Nat.le_succ_of_le (I.ok _ hj h)
  · obtain rfl:j=1 - cur := by omega
    exact Nat.le_of_eq (slot_blk (putS_len I.len I.c1 (by rw [slotL_len]; omega)) hj hl (by omega) (I.blk_new hl)).2.1
/-- A save that goes well; and what Open needs then. -/
theorem IV.saved {bs text l:List UInt8} {cur turn nxt:Nat} (I:IV bs cur turn nxt text) (hl:l.length≤4080) (h:nxt+1<1000000):IV (Cd bs cur (slotL (nxt+1) l)) (1 - cur) (nxt+1) (nxt+1) l :=
  ⟨putS_len I.len I.c1 (by rw [slotL_len]; omega), by omega, I.blk_new hl, hl, fun j hj hk => I.oks hl j hj hk, by omega, Nat.le_refl _, h⟩
theorem IV.other {bs text l:List UInt8} {cur turn nxt:Nat} (I:IV bs cur turn nxt text) (hl:l.length≤4080):rdOK (blk (Cd bs cur (slotL (nxt+1) l)) (1 - (1 - cur)))=true->rdTurn (blk (Cd bs cur (slotL (nxt+1) l)) (1 - (1 - cur)))<nxt+1 := by
  have c := I.c1
  rw [show 1 - (1 - cur)=cur by omega, I.blk_old hl]
  exact fun h => Nat.lt_succ_of_le (I.ok cur c h)
theorem numL_zero (m:Nat):numL (List.replicate m 0)=0 := by
  have h:∀ j, DH j 0 0=0 := fun j => by
    induction j with
    | zero => rfl
    | succ j ih => exact ih
  unfold numL; rw [Il]; exact h _
theorem img_other {l:List UInt8} (hl:l.length≤4080):rdTurn (blk (imgL l) 1)=0 := by
  have hz:(blk (imgL l) 1).take 8=List.replicate 8 0 := by
    rw [blk_take (by omega), imgL, List.drop_append, List.drop_of_length_le (by rw [slotL_len]; omega), List.nil_append, List.drop_replicate, List.take_replicate, slotL_len]
    congr 1; omega
  rw [rdTurn, hz, numL_zero]
theorem IV.first {l:List UInt8} (hl:l.length≤4080):IV (imgL l) 0 1 1 l := by
  have il := imgL_len hl
  have h0:((imgL l).drop (0*4096)).take (16+l.length)=slotL 1 l := by
    rw [Nat.zero_mul, List.drop_zero, imgL, List.take_append_of_le_length (by rw [slotL_len]; omega), List.take_of_length_le (by rw [slotL_len]; omega)]
  refine ⟨il, by omega, h0, hl, fun j hj hk => ?_, Nat.le_refl _, Nat.le_refl _, by omega⟩
  rcases (by omega:j=0∨j=1) with rfl | rfl
  · exact Nat.le_of_eq (slot_blk il (by omega) hl (by omega) h0).2.1
  · rw [img_other hl]; omega
def cutH (o:Option (List UInt8)):List UInt8 := (o.getD []).take 100
def cutW:Option (List UInt8)->V
  | none => .nil .sl
  | some l => GI (l.take 100)
theorem cutW_ok {m:Nat} {h:Heap} {n:K4} {o:Option (List UInt8)} (ho:∀ b, o=some b->b.length<9223372036854775808):Ap tab (m+1) ⟨.d0, .d1, .d9⟩ [(Ly o).v, .int .i64 100] h n = .rv (cutW o) h n := by
  cases o with
  | none => exact short_nil (by omega)
  | some l => exact short_rb (ho l rfl) (by omega)
theorem cutW_v (o:Option (List UInt8)):cutW o=GI (cutH o)∨(cutW o = .nil .sl∧cutH o=[]) := by
  cases o with
  | none => exact .inr ⟨rfl, rfl⟩
  | some l => exact .inl rfl
theorem cutH_len (o:Option (List UInt8)):(cutH o).length≤100 := by
  unfold cutH; rw [List.length_take]; omega
/-- The amounts: none, or told. -/
def FV (fv:V) (fs:List Nat):Prop := (fv = .nil .sl∧fs=[])∨fv = .oth (.rx (fs.map (RV.i .i64)) fs.length 1)
theorem SS.fail {h:Heap} {n f d x dm pc lm sp:K4} {room rd calls fl g b k cur turn nxt:Nat} {bs ys text:List UInt8} {cv sv tv:V} (D:SS h n f d x dm pc lm sp room rd calls fl b k bs ys cv sv tv cur turn nxt text) :
    SS (Af f h (some (.c (.l (fsC room rd calls g (.map d) (.map lm) (.nil .sl))) false none))) n f d x dm pc lm sp room rd calls g b k bs ys cv sv tv cur turn nxt text := by
  have nd := D.nd
  simp only [List.pairwise_cons,List.mem_cons,List.not_mem_nil,or_false,forall_eq_or_imp,forall_eq,List.Pairwise.nil,and_true,false_implies,implies_true] at nd
  obtain ⟨⟨nfd, nfx, nfm, nfp, nfl, nfs⟩, _⟩ := nd
  have lf := D.lt f (by simp)
  have k:∀ q:K4, q≠f->∀ o, A9 q (Af f h o)=A9 q h := fun q hq o => A6 _ _ (Ne.symm hq)
  obtain ⟨es, ds, dk, hm, ik⟩ := D.hm
  exact ⟨A7 _ _ _, (k d nfd.symm _).trans D.hd, D.hb, (k lm nfl.symm _).trans D.hl, (k x nfx.symm _).trans D.hx, ⟨es, ds, dk, (k dm nfm.symm _).trans hm, ik⟩, D.own.frame (k pc nfp.symm _), D.oy.frame (Nat.le_refl _) fun p hp hq => ⟨k p (hq f (by simp)) _, hq⟩, (k sp nfs.symm _).trans D.hs, D.ot.frame (Nat.le_refl _) fun p hp hq => ⟨k p (hq f (by simp)) _, hq⟩, fun q hq => (k q (K4.ne_of_lt (by omega)).symm _).trans (D.fr q hq), D.nd, D.lt⟩
/-- Reads of new memory alone change nothing. -/
theorem SS.more {h h':Heap} {n n' f d x dm pc lm sp:K4} {room rd calls fl b k cur turn nxt:Nat} {bs ys text:List UInt8} {cv sv tv:V} (D:SS h n f d x dm pc lm sp room rd calls fl b k bs ys cv sv tv cur turn nxt text) (hn:n.toN≤n'.toN) (e:∀ q:K4, q.toN<n.toN->A9 q h'=A9 q h) (fr:AH h' n') :
    SS h' n' f d x dm pc lm sp room rd calls fl b k bs ys cv sv tv cur turn nxt text := by
  obtain ⟨es, ds, dk, hm, ik⟩ := D.hm
  have l := D.lt
  exact ⟨(e f (l f (by simp))).trans D.hf, (e d (l d (by simp))).trans D.hd, D.hb, (e lm (l lm (by simp))).trans D.hl, (e x (l x (by simp))).trans D.hx, ⟨es, ds, dk, (e dm (l dm (by simp))).trans hm, ik⟩, D.own.frame (e pc (l pc (by simp))), D.oy.frame hn fun p hp hq => ⟨e p hp, hq⟩, (e sp (l sp (by simp))).trans D.hs, D.ot.frame hn fun p hp hq => ⟨e p hp, hq⟩, fr, D.nd, fun q hq => Nat.lt_of_lt_of_le (l q hq) hn⟩
theorem begun9:Xk (Ap tab 30 ⟨.d0, .d1, .d15⟩ [] AE XG)=true := by kernel_rfl
/-- A slots file whose last save went well. -/
def AS (h:Heap) (n f sp:K4) (now:List UInt8) (turn C:Nat):Prop := ∃ d x dm pc lm rd calls b k dk bs cv sv tv cur, SS h n f d x dm pc lm sp 100000 rd calls 18446744073709551615 b k bs bs cv sv tv cur turn turn now∧IV bs cur turn turn now ∧
  (rdOK (blk bs (1 - cur))=true->rdTurn (blk bs (1 - cur))<turn)∧A9 dm h=some (.m [] [] dk)∧rd≤8192∧calls≤C
theorem as_more {h h':Heap} {n n' f sp:K4} {now:List UInt8} {turn C:Nat} (D:AS h n f sp now turn C) (hn:n.toN≤n'.toN) (e:∀ q:K4, q.toN<n.toN->A9 q h'=A9 q h) (fr:AH h' n'):AS h' n' f sp now turn C := by
  obtain ⟨d, x, dm, pc, lm, rd, calls, b, k, dk, bs, cv, sv, tv, cur, S, I, O, m0, c1, c2⟩ := D
  exact ⟨d, x, dm, pc, lm, rd, calls, b, k, dk, bs, cv, sv, tv, cur, S.more hn e fr, I, O, (e dm (S.lt dm (by simp))).trans m0, c1, c2⟩
theorem as_save {m:Nat} {h0 h:Heap} {n0 n f sp:K4} {now l:List UInt8} {turn C:Nat} {v:V} (D:AS h0 n0 f sp now turn C) (hn0:n0.toN≤n.toN) (e:∀ q:K4, q.toN<n0.toN->A9 q h=A9 q h0) (fr:AH h n)
    (hv:De v l h) (hvp:∀ p:K4, (∃ off cap ex, v = .sl p off l.length cap ex 1)->n0.toN≤p.toN∧p.toN<n.toN) (hl:l.length≤4080) (ht:turn+1<1000000) (hC:C<900000) (hn:n.toN<56000) :
    ∃ h' n', Ap tab (m+12) ⟨.d0, .d2, .d1⟩ [.ptr sp 0, v] h n = .rv (.int .i64 0) h' n'∧n.toN≤n'.toN∧n'.toN≤n.toN+80∧AS h' n' f sp l (turn+1) (C+2)∧De v l h' := by
  obtain ⟨d, x, dm, pc, lm, rd, calls, b, k, dk, bs, cv, sv, tv, cur, S0, I, O, m0, c1, c2⟩ := D
  have S := S0.more hn0 e fr
  have hvp2:∀ p:K4, (∃ off cap ex, v = .sl p off l.length cap ex 1)->p.toN<n.toN ∧ ∀ q∈[f, d, x, dm, pc, lm, sp], p≠q := fun p hp => by
    obtain ⟨q1, q2⟩ := hvp p hp
    exact ⟨q2, fun q hq => (K4.ne_of_lt (Nat.lt_of_lt_of_le (S0.lt q hq) q1)).symm⟩
  obtain ⟨h', n', dm', sv', tv', e1, b1, b2, o1, S', m1⟩ := save_ok (m := m) S (.inl ⟨rfl, rfl⟩) (.inl ⟨rfl, rfl⟩) hv hvp2 hl (by omega) I.c1 I.len (by omega) (by omega) (by omega) hn
  have hs:(slotL (turn+1) l).length=16+l.length := slotL_len _ _
  refine ⟨h', n', e1, b1, b2, ⟨d, x, dm', pc, lm, rd, calls+2, b, k, 0, _, cv, sv', tv', 1 - cur, S', I.saved hl ht, I.other hl, m1, c1, by omega⟩, hv.frame fun p hp => ?_⟩
  obtain ⟨q1, q2⟩ := hvp2 p hp
  exact o1 p q1 q2
set_option maxHeartbeats 1000000 in
theorem as_reopen {m:Nat} {h:Heap} {n f sp:K4} {now:List UInt8} {turn C:Nat} (D:AS h n f sp now turn C) (hn:n.toN<45000) :
    ∃ h1 n1 g h' n' sp', Ap tab (m+10) ⟨.d0, .d1, .d13⟩ [.ptr f 0, .int .i64 0, .nil .sl, .int .i64 18446744073709551615] h n = .rv (.ptr g 0) h1 n1∧Ap tab (m+10) ⟨.d0, .d2, .d2⟩ [.ptr g 0, .str 1 65] h1 n1 = .rv (.tup [.ptr sp' 0, .int .i64 0]) h' n'∧n.toN≤n'.toN∧n'.toN≤n.toN+140∧AS h' n' g sp' now turn 0 := by
  obtain ⟨d, x, dm, pc, lm, rd, calls, b, k, dk, bs, cv, sv, tv, cur, S, I, O, m0, c1, c2⟩ := D
  have l6 := I.len
  obtain ⟨ps, ho, hp⟩:∃ p, HP p h sv bs∧p.toN<n.toN := by
    rcases S.oy with ⟨_, e⟩ | ⟨p, ex, e, g, q, _⟩
    · rw [e] at l6; cases l6
    · exact ⟨p, .inr ⟨ex, e, g⟩, q⟩
  obtain ⟨h8, n8, g, d', l', x', p', dm2, cv2, sv2, p4, e8, b8, b8', o8, g8, d8, x8, m8, ow8, l8, ow8', f8, ⟨s1, s2, s3, s4, s5, s6⟩, ⟨r1, r2, r3, r4, r5, r6⟩, ⟨t1, t2, t3, t4, t5, t6⟩, hp4⟩ := crash_1 (m := m) (n := n) (nv := .int .i64 0) (kv := .nil .sl) (tv := .int .i64 18446744073709551615) S.hf S.hl S.hb S.hx m0 ho (by omega) S.fr (S.lt _ (by simp)) (S.lt _ (by simp)) (S.lt _ (by simp)) (S.lt _ (by simp)) hp (by omega)
  obtain ⟨k1, k2, k4⟩ := slot_blk l6 I.c1 I.tl (by have := I.nx; omega) I.slot
  obtain ⟨h9, n9, sp9, tv9, e9, b9, b9', o9, y9, s9, t9, l9, l9', f9⟩ := open_ok (m := m+6) (n := n8) (cur := cur) (turn := turn) (l := now) (av := [g, d', x', dm2, p', l']) g8 d8 x8 ow8 l6 f8 (by omega) (by omega) (by omega) r1 (K4.ne_of_lt (by omega)).symm (K4.ne_of_lt (by omega)).symm r2 (by omega) (by omega) (by simp) (fun q hq => by
    simp only [List.mem_cons,List.not_mem_nil,or_false] at hq
    rcases hq with rfl | rfl | rfl | rfl | rfl | rfl <;> omega) I.c1 I.t1 (by have := I.nx; omega) k1 k2 k4 O
  rw [show m+6+4=m+10 from rfl] at e9
  refine ⟨h8, n8, g, h9, n9, sp9, e8, e9, by omega, by omega, d', x', dm2, p', l', 0+8192, 0, b, k, 0, bs, cv2, sv2, tv9, cur, ⟨y9, (o9 d' (by omega) (K4.ne_of_lt (by omega)).symm).trans d8, S.hb, (o9 l' (by omega) (K4.ne_of_lt (by omega)).symm).trans l8, (o9 x' (by omega) (K4.ne_of_lt (by omega)).symm).trans x8, ⟨[], [], 0, (o9 dm2 (by omega) (K4.ne_of_lt (by omega)).symm).trans m8, IK.nil⟩, ow8.frame (o9 p' r1 r2), ?_, s9, ?_, f9, ?_, ?_⟩, I, O, (o9 dm2 (by omega) (K4.ne_of_lt (by omega)).symm).trans m8, by omega, by omega⟩
  · rcases ow8' with ow | ⟨ex, e, gg⟩
    · exact .inl ow
    · have hp4':p4≠p' := by
        rcases hp4 with hp4 | hp4
        · exact hp4
        · rw [hp4] at e; cases e
      refine .inr ⟨p4, ex, e, (o9 p4 t1 t2).trans gg, by omega, fun q hq => ?_⟩
      simp only [List.mem_cons,List.not_mem_nil,or_false] at hq
      rcases hq with rfl | rfl | rfl | rfl | rfl | rfl | rfl
      · exact t2
      · exact t6
      · exact t5
      · exact t4
      · exact hp4'
      · exact t3
      · exact K4.ne_of_lt (by omega)
  · refine t9.frame (Nat.le_refl _) fun p hp hq => ⟨rfl, fun q hq2 => hq q ?_⟩
    simp only [List.mem_cons,List.not_mem_nil,or_false] at hq2 ⊢
    rcases hq2 with h | h | h | h | h | h | h <;> simp [h]
  · simp only [List.pairwise_cons,List.mem_cons,List.not_mem_nil,or_false,forall_eq_or_imp,forall_eq,List.Pairwise.nil,and_true,false_implies,implies_true]
    have lt:∀ {p q:K4}, p.toN<q.toN->p≠q := fun h => K4.ne_of_lt h
    exact ⟨⟨lt (by omega), lt (by omega), lt (by omega), r2.symm, lt (by omega), lt (by omega)⟩, ⟨(lt (by omega)).symm, (lt (by omega)).symm, r6.symm, (lt (by omega)).symm, lt (by omega)⟩, ⟨(lt (by omega)).symm, r5.symm, (lt (by omega)).symm, lt (by omega)⟩, ⟨r4.symm, (lt (by omega)).symm, lt (by omega)⟩, ⟨r3, lt (by omega)⟩, lt (by omega)⟩
  · intro q hq
    simp only [List.mem_cons,List.not_mem_nil,or_false] at hq
    rcases hq with rfl | rfl | rfl | rfl | rfl | rfl | rfl <;> omega
theorem b2s_any {v:V} {l:List UInt8} {h:Heap} (H:De v l h) (κ:V->R):GE v h κ=κ (sb l) := by
  rcases H with rfl | ⟨rfl, rfl⟩ | ⟨p, off, cap, ex, L, s, pr, rfl, h1, h2, h3⟩
  · rfl
  · rfl
  · rw [Vi h1 h2, h3]
theorem rvi_v (k:IntKind) (r:Nat):(RV.i k r).v = .int k r := id rfl
theorem rvb_v (b:Bool):(RV.b b).v = .bool b := id rfl
/-- Bools: none, or told. -/
def BV (v:V) (os:List Bool):Prop := (v = .nil .sl∧os=[])∨v = .oth (.rx (os.map RV.b) os.length 1)
noncomputable def slR3 (c:Gl):S->Heap->K4->R := fun t h n=>g5 t fun z1u=>Ag (c ⟨.d0,.d2,.d3⟩ [z1u] h n) fun z1v h n=>GE z1v h fun z1w=>g6 t fun z1x=>C0 z1w z1x fun z1y=>Cm false z1y h n (fun k=>k z1u h n) fun z1z h n=>Cm false z1y h n (fun k=>Ag (c ⟨.d0,.d2,.d4⟩ [z1z] h n) k) fun z20 h n=>g7 t fun z21=>Cm false z1y h n (fun k=>k z21 h n) fun z22 h n=>Cm false z1y h n (fun k=>C0 z20 z22 fun v=>k v h n) fun z23 h n=>AX z1y (.bool true) z23 fun z24=>Bo z24 (w3 t (.bool false) fun t=>rT t h n)<|nR t h n
noncomputable def slR2 (c:Gl):S->Heap->K4->R := fun t h n=>g8 t fun z1f=>g2 t fun z1g=>B1 z1g fun z1h=>B4 z1f z1h fun z1i=>gK z1i z1g h n fun z1j h n=>gK z1i z1f h n fun z1k h n=>gO z1i h n (fun k=>Bi 1 z1j z1k k) fun z1l h n=>gO z1i h n (fun k=>AA z1l h k) fun z1m h n=>AX z1i z1m (.bool false) fun z1n=>BQ (Bo z1n (g4 t fun z1o=>Ag (c ⟨.d0,.d1,.d13⟩ [z1o,(iI 0),(.nil .sl),(iI 18446744073709551615)] h n) fun z1p h n=>Ag (c ⟨.d0,.d2,.d2⟩ [z1p,(.str 1 65)] h n) fun z1q h n=>BT 0 z1q fun z1r=>BT 1 z1q fun z1s=>C0 z1s (iI 0) fun z1t=>Bo z1t (w3 t (.bool false) fun t=>w4 t z1p fun t=>w5 t z1r fun t=>rT t h n)<|w4 t z1p fun t=>w5 t z1r fun t=>nR t h n) (nR t h n)) (slR3 c)
noncomputable def slR1 (c:Gl):S->Heap->K4->R := fun t h n=>g5 t fun z15=>g9 t fun z16=>Ag (c ⟨.d0,.d2,.d1⟩ [z15,z16] h n) fun z17 h n=>B1 z16 fun z18=>CU z18 (iI 4080) fun z19=>BQ (Bo z19 (C0 z17 (iI 9) fun z1a=>Bo z1a (w3 t (.bool false) fun t=>rT t h n)<|nR t h n) (C0 z17 (iI 0) fun z1b=>Bo z1b (w3 t (.bool false) fun t=>rT t h n)<|GE z16 h fun z1c=>g7 t fun z1d=>B0 z1d (iL 1) fun z1e=>w6 t z1c fun t=>w7 t z1e fun t=>nR t h n)) (slR2 c)
noncomputable def slB (c:Gl):S->Heap->K4->R := fun t h n=>g8 t fun z8=>g0 t fun z9=>B1 z9 fun za=>B4 z8 za fun zb=>gK zb z8 h n fun zc h n=>gO zb h n (fun k=>B4 zc (iI 20) k) fun zd h n=>AX zb zd (.bool false) fun ze=>Bo ze (Aq 1 (Bi 1 z9 z8 fun zf=>AA zf h fun zg=>Ag (c ⟨.d0,.d1,.d9⟩ [zg,(iI 100)] h n) fun zh h n=>g1 t fun zi=>B1 zi fun zj=>B4 z8 zj fun zk=>gK zk zi h n fun zl h n=>gK zk z8 h n fun zm h n=>gO zk h n (fun k=>Bi 1 zl zm k) fun zn h n=>gO zk h n (fun k=>AA zn h k) fun zo h n=>gO zk h n (fun k=>CU zo (iI 100) k) fun zp h n=>AX zk zp (.bool false) fun zq=>gK zq zi h n fun zr h n=>gK zq z8 h n fun zs h n=>gO zq h n (fun k=>Bi 1 zr zs k) fun zt h n=>gO zq h n (fun k=>AA zt h k) fun zu h n=>gO zq h n (fun k=>B4 zu (iI 4200) k) fun zv h n=>AX zq zv (.bool false) fun zw=>BQ (Bo zw (mV zh fun zx=>mV zi fun zy=>mV z8 fun zz=>Bl (Bi 1 zy zz AW) fun z10=>Bl (AA z10 h AW) fun z11=>Fq (EK 1 1 (.nil .sl) zx h n .rv) fun z12 h n=>Bl (AA z10 h AW) fun v=>Bf z11 v<|Fq (Fh 1 1 true [(iB 0)] z12 z11 h n .rv) fun z13 h n=>mV z13 fun z14=>w9 t z14 fun t=>nR t h n) (w9 t zh fun t=>nR t h n)) (slR1 c)) fun t h n=>g8 t fun z25=>B0 z25 (iI 1) fun z26=>w8 t z26 fun t=>nR t h n)<|.ok (.exit 0) t h n
noncomputable def x5L:Ent := .code en0 (fun c t h n=>Ag (c ⟨.d0,.d1,.d15⟩ [] h n) fun z1 h n=>DP z1 fun z2=>Bo z2 (w3 t (.bool false) fun t=>rT t h n)<|Ag (c ⟨.d0,.d1,.d6⟩ [(iI 100000)] h n) fun z3 h n=>Ag (c ⟨.d0,.d2,.d0⟩ [z3,(.str 1 65),(.nil .sl)] h n) fun z4 h n=>BT 0 z4 fun z5=>BT 1 z4 fun z6=>C0 z6 (iI 0) fun z7=>Bo z7 (w3 t (.bool false) fun t=>w4 t z3 fun t=>w5 t z5 fun t=>rT t h n)<|Aq 0 (w3 t (.bool false) fun t=>w4 t z3 fun t=>w5 t z5 fun t=>w6 t (.str 0 0) fun t=>w7 t (iL 1) fun t=>w8 t (iI 0) fun t=>Cg (slB c) t h n) fun t h n=>g4 t fun z27=>Ag (c ⟨.d0,.d2,.d5⟩ [z27,(.str 1 65)] h n) fun z28 h n=>Dk z28 (iI 8192) fun z29=>w3 t z29 fun t=>rT t h n) (fun t h n=>g3 t fun a0=>.rv a0 h n)
theorem x5_L:x5=x5L := rfl
theorem neq_s (a:List UInt8) (κ:V->R):C0 (sb a) (sb a) κ=κ (.bool false) := by
  show br (DJ a.length (Ar a) a.length (Ar a)) (κ (.bool false)) (κ (.bool true))=_
  rw [TG, decide_eq_true rfl]; rfl
theorem slR3_ok {m:Nat} {h:Heap} {n f sp:K4} {now:List UInt8} {turn C i:Nat} {tx sz op rv bv:V} (D:AS h n f sp now turn C) (hn:n.toN<56000) :
    ∃ h' n', slR3 (Ap tab (m+12)) (.mk (.mk tx sz op rv) (.mk (.ptr f 0) (.ptr sp 0) (sb now) (.int .u64 turn)) (.mk (.int .i64 i) bv AO AO) Q0 Q0 Q0 Q0 Q0) h n = .ok .nrm (.mk (.mk tx sz op rv) (.mk (.ptr f 0) (.ptr sp 0) (sb now) (.int .u64 turn)) (.mk (.int .i64 i) bv AO AO) Q0 Q0 Q0 Q0 Q0) h' n'∧n.toN≤n'.toN∧n'.toN≤n.toN+2∧AS h' n' f sp now turn C := by
  have D0 := D
  obtain ⟨d, x, dm, pc, lm, rd, calls, b, k, dk, bs, cv, sv, tv, cur, S, I, O, m0, c1, c2⟩ := D
  obtain ⟨h3, n3, v3, e3, b3, b4, hv3, f3, r3⟩ := text_ok (m := m+10) (n := n) S.hs S.ot (by have := I.tl; omega) (by omega)
  have e4 := turn_ok (m := m+11) (n := n3) ((f3 sp (S.lt sp (by simp))).trans S.hs)
  refine ⟨h3, n3, ?_, b3, b4, as_more D0 b3 f3 (r3 S.fr)⟩
  rw [show m+11+1=m+12 from rfl] at e4
  rw [show m+10+2=m+12 from rfl] at e3
  unfold slR3
  simp (config := {maxSteps := 3000000}) (disch := omega) only [qa,g0,g1,g2,g3,g4,g5,g6,g7,g8,g9,BB,BC,Bq,BA,By,Bw,BD,BH,Bp,BK,w0,w1,w2,w3,w4,w5,w6,w7,w8,w9,BF,Bz,Bx,BE,BI,Bv,BG,BJ,Bu,BL,Mk,Nat.reduceAdd,Nat.reduceSub,Nat.reduceMul,Nat.reduceMod,Nat.reduceDiv,Q0,U,e3,e4,hv3,neq_s,Fg,Fe,q_tf,q_ff,q_gdU]
theorem slR2_ok {m:Nat} {h:Heap} {n f sp:K4} {now:List UInt8} {turn C i:Nat} {tx sz op rv bv:V} {os:List Bool} (D:AS h n f sp now turn C) (hop:BV op os) (hos:os.length<9223372036854775808) (hi:i<20) (hn:n.toN<44000) :
    ∃ h' n' f' sp', slR2 (Ap tab (m+12)) (.mk (.mk tx sz op rv) (.mk (.ptr f 0) (.ptr sp 0) (sb now) (.int .u64 turn)) (.mk (.int .i64 i) bv AO AO) Q0 Q0 Q0 Q0 Q0) h n = .ok .nrm (.mk (.mk tx sz op rv) (.mk (.ptr f' 0) (.ptr sp' 0) (sb now) (.int .u64 turn)) (.mk (.int .i64 i) bv AO AO) Q0 Q0 Q0 Q0 Q0) h' n'∧n.toN≤n'.toN∧n'.toN≤n.toN+142∧AS h' n' f' sp' now turn C := by
  have hl:∀ κ:V->R, B1 op κ=κ (.int .i64 os.length) := fun κ => by
    rcases hop with ⟨rfl, rfl⟩ | rfl
    · rfl
    · exact CV hos κ
  have stay:∃ h' n' f' sp', slR3 (Ap tab (m+12)) (.mk (.mk tx sz op rv) (.mk (.ptr f 0) (.ptr sp 0) (sb now) (.int .u64 turn)) (.mk (.int .i64 i) bv AO AO) Q0 Q0 Q0 Q0 Q0) h n = .ok .nrm (.mk (.mk tx sz op rv) (.mk (.ptr f' 0) (.ptr sp' 0) (sb now) (.int .u64 turn)) (.mk (.int .i64 i) bv AO AO) Q0 Q0 Q0 Q0 Q0) h' n'∧n.toN≤n'.toN∧n'.toN≤n.toN+142∧AS h' n' f' sp' now turn C := by
    obtain ⟨h1, n1, e1, b1, b2, D1⟩ := slR3_ok (m := m) (tx := tx) (sz := sz) (op := op) (rv := rv) (bv := bv) (i := i) D (by omega)
    exact ⟨h1, n1, f, sp, e1, b1, by omega, D1⟩
  by_cases hio:i<os.length
  · rcases hop with ⟨_, rfl⟩ | rfl
    · cases hio
    have hdr:(os.map RV.b).drop i=RV.b os[i]::(os.map RV.b).drop (i+1) := by rw [List.drop_eq_getElem_cons (by simpa using hio)]; simp
    cases ho:os[i] with
    | false =>
      rw [ho] at hdr
      obtain ⟨h1, n1, f1, sp1, e1, b1, b2, D1⟩ := stay
      refine ⟨h1, n1, f1, sp1, ?_, b1, b2, D1⟩
      unfold slR2
      simp (config := {maxSteps := 3000000}) (disch := omega) only [qa,g0,g1,g2,g3,g4,g5,g6,g7,g8,g9,BB,BC,Bq,BA,By,Bw,BD,BH,Bp,BK,w0,w1,w2,w3,w4,w5,w6,w7,w8,w9,BF,Bz,Bx,BE,BI,Bv,BG,BJ,Bu,BL,Mk,Nat.reduceAdd,Nat.reduceSub,Nat.reduceMul,Nat.reduceMod,Nat.reduceDiv,Q0,U,hl,decide_eq_true hio,Fg,Fe,KJ,hdr,L1,rvb_v]
      simp only [Q0] at e1
      exact e1
    | true =>
      rw [ho] at hdr
      obtain ⟨h1, n1, g, h2, n2, sp2, e1, e2, b1, b2, D1⟩ := as_reopen (m := m+2) D (by omega)
      obtain ⟨h3, n3, e3, b3, b4, D3⟩ := slR3_ok (m := m) (tx := tx) (sz := sz) (op := .oth (.rx (os.map RV.b) os.length 1)) (rv := rv) (bv := bv) (i := i) D1 (by omega)
      obtain ⟨d, x, dm, pc, lm, rd, calls, b, k, dk, bs, cv, sv, tv, cur, S, I, O, m0, c1, c2⟩ := D3
      refine ⟨h3, n3, g, sp2, ?_, by omega, by omega, ⟨d, x, dm, pc, lm, rd, calls, b, k, dk, bs, cv, sv, tv, cur, S, I, O, m0, c1, by omega⟩⟩
      rw [show m+2+10=m+12 from rfl] at e1 e2
      unfold slR2
      simp (config := {maxSteps := 3000000}) (disch := omega) only [qa,g0,g1,g2,g3,g4,g5,g6,g7,g8,g9,BB,BC,Bq,BA,By,Bw,BD,BH,Bp,BK,w0,w1,w2,w3,w4,w5,w6,w7,w8,w9,BF,Bz,Bx,BE,BI,Bv,BG,BJ,Bu,BL,Mk,Nat.reduceAdd,Nat.reduceSub,Nat.reduceMul,Nat.reduceMod,Nat.reduceDiv,Q0,U,hl,decide_eq_true hio,Fg,Fe,KJ,hdr,L1,rvb_v,e1,e2]
      simp only [Q0] at e3
      exact e3
  · obtain ⟨h1, n1, f1, sp1, e1, b1, b2, D1⟩ := stay
    refine ⟨h1, n1, f1, sp1, ?_, b1, b2, D1⟩
    unfold slR2
    simp (config := {maxSteps := 3000000}) (disch := omega) only [qa,g0,g1,g2,g3,g4,g5,g6,g7,g8,g9,BB,BC,Bq,BA,By,Bw,BD,BH,Bp,BK,w0,w1,w2,w3,w4,w5,w6,w7,w8,w9,BF,Bz,Bx,BE,BI,Bv,BG,BJ,Bu,BL,Mk,Nat.reduceAdd,Nat.reduceSub,Nat.reduceMul,Nat.reduceMod,Nat.reduceDiv,Q0,U,hl,decide_eq_false hio,Fg,Fe]
    simp only [Q0] at e1
    exact e1
theorem slR1_ok {m:Nat} {h0 h:Heap} {n0 n f sp:K4} {now l:List UInt8} {turn C i:Nat} {tx sz op rv v:V} {os:List Bool} (D:AS h0 n0 f sp now turn C) (hn0:n0.toN≤n.toN) (e:∀ q:K4, q.toN<n0.toN->A9 q h=A9 q h0) (fr:AH h n)
    (hv:De v l h) (hvp:∀ p:K4, (∃ off cap ex, v = .sl p off l.length cap ex 1)->n0.toN≤p.toN∧p.toN<n.toN) (hl:l.length≤5000) (hop:BV op os) (hos:os.length<9223372036854775808) (hi:i<20) (ht:turn+1<1000000) (hC:C<900000) (hn:n.toN<43000) :
    ∃ h' n' f' sp' now' turn', slR1 (Ap tab (m+12)) (.mk (.mk tx sz op rv) (.mk (.ptr f 0) (.ptr sp 0) (sb now) (.int .u64 turn)) (.mk (.int .i64 i) v AO AO) Q0 Q0 Q0 Q0 Q0) h n = .ok .nrm (.mk (.mk tx sz op rv) (.mk (.ptr f' 0) (.ptr sp' 0) (sb now') (.int .u64 turn')) (.mk (.int .i64 i) v AO AO) Q0 Q0 Q0 Q0 Q0) h' n'∧n.toN≤n'.toN∧n'.toN≤n.toN+222∧AS h' n' f' sp' now' turn' (C+2)∧turn'≤turn+1 := by
  have hln := hv.len (by omega)
  rcases Nat.lt_or_ge 4080 l.length with hb | hb
  · have e1 := save_big (m := m+11) (n := n) (sp := sp) hv hb (by omega)
    obtain ⟨h2, n2, f2, sp2, e2, b1, b2, d, x, dm, pc, lm, rd, calls, b, k, dk, bs, cv, sv, tv, cur, S, I, O, m0, c1, c2⟩ := slR2_ok (m := m) (tx := tx) (sz := sz) (rv := rv) (bv := v) (as_more D hn0 e fr) hop hos hi (by omega)
    refine ⟨h2, n2, f2, sp2, now, turn, ?_, b1, by omega, ⟨d, x, dm, pc, lm, rd, calls, b, k, dk, bs, cv, sv, tv, cur, S, I, O, m0, c1, by omega⟩, by omega⟩
    rw [show m+11+1=m+12 from rfl] at e1
    simp only [Q0] at e2
    unfold slR1
    simp (config := {maxSteps := 3000000}) (disch := omega) only [qa,g0,g1,g2,g3,g4,g5,g6,g7,g8,g9,BB,BC,Bq,BA,By,Bw,BD,BH,Bp,BK,w0,w1,w2,w3,w4,w5,w6,w7,w8,w9,BF,Bz,Bx,BE,BI,Bv,BG,BJ,Bu,BL,Mk,Nat.reduceAdd,Nat.reduceSub,Nat.reduceMul,Nat.reduceMod,Nat.reduceDiv,Q0,U,e1,hln,e2,Fg,Fe]
  · obtain ⟨h1, n1, e1, b1, b2, D1, hv1⟩ := as_save (m := m) D hn0 e fr hv hvp hb ht hC (by omega)
    obtain ⟨h2, n2, f2, sp2, e2, b3, b4, D2⟩ := slR2_ok (m := m) (tx := tx) (sz := sz) (rv := rv) (bv := v) D1 hop hos hi (by omega)
    refine ⟨h2, n2, f2, sp2, l, turn+1, ?_, by omega, by omega, D2, Nat.le_refl _⟩
    have hs := fun κ => b2s_any hv1 κ
    simp only [Q0] at e2
    unfold slR1
    rw [show iL 1 = .int .u64 1 from rfl]
    simp (config := {maxSteps := 3000000}) (disch := omega) only [qa,g0,g1,g2,g3,g4,g5,g6,g7,g8,g9,BB,BC,Bq,BA,By,Bw,BD,BH,Bp,BK,w0,w1,w2,w3,w4,w5,w6,w7,w8,w9,BF,Bz,Bx,BE,BI,Bv,BG,BJ,Bu,BL,Mk,Nat.reduceAdd,Nat.reduceSub,Nat.reduceMul,Nat.reduceMod,Nat.reduceDiv,Q0,U,e1,hln,hs,e2,Fg,Fe]
theorem slB_in {m:Nat} {ps:List (Option (List UInt8))} {fs:List Nat} {os:List Bool} {fv ov rv bv:V} {now:List UInt8} {turn C i:Nat} {h:Heap} {n f sp:K4} (hps:ps.length<9223372036854775808) (hp2:∀ o∈ps, ∀ b, o=some b->b.length<9223372036854775808) (hfl:fs.length<9223372036854775808) (hf2:∀ r∈fs, r<18446744073709551616) (hfv:FV fv fs) (hos:os.length<9223372036854775808) (hov:BV ov os)
    (hi:i<ps.length) (hi2:i<20) (D:AS h n f sp now turn C) (ht:turn+1<1000000) (hC:C<900000) (hn:n.toN<42000) :
    ∃ h' n' f' sp' now' turn' bv', slB (Ap tab (m+12)) (.mk (.mk (.oth (.rx (ps.map Ly) ps.length 1)) fv ov rv) (.mk (.ptr f 0) (.ptr sp 0) (sb now) (.int .u64 turn)) (.mk (.int .i64 i) bv AO AO) Q0 Q0 Q0 Q0 Q0) h n = .ok .nrm (.mk (.mk (.oth (.rx (ps.map Ly) ps.length 1)) fv ov rv) (.mk (.ptr f' 0) (.ptr sp' 0) (sb now') (.int .u64 turn')) (.mk (.int .i64 (i+1)) bv' AO AO) Q0 Q0 Q0 Q0 Q0) h' n' ∧
      n'.toN≤n.toN+300∧AS h' n' f' sp' now' turn' (C+2)∧turn'≤turn+1 := by
  have hcl := cutH_len ps[i]
  have hl:∀ κ:V->R, B1 fv κ=κ (.int .i64 fs.length) := fun κ => by
    rcases hfv with ⟨rfl, rfl⟩ | rfl
    · rfl
    · exact CV hfl κ
  have hdr:(ps.map Ly).drop i=Ly (ps[i])::(ps.map Ly).drop (i+1) := by rw [List.drop_eq_getElem_cons (by simpa using hi)]; simp
  have ec := cutW_ok (m := m+11) (h := h) (n := n) (hp2 _ (List.getElem_mem hi))
  rw [show m+11+1=m+12 from rfl] at ec
  have hcs:De (cutW ps[i]) (cutH ps[i]) h := by rcases cutW_v ps[i] with h | h; exact .inl h; exact .inr (.inl h)
  have hcp:∀ p:K4, (∃ off cap ex, cutW ps[i] = .sl p off (cutH ps[i]).length cap ex 1)->n.toN≤p.toN∧p.toN<n.toN := by
    rintro p ⟨a, b, c, e⟩
    rcases cutW_v ps[i] with h | ⟨h, _⟩ <;> rw [h] at e <;> cases e
  have fr:AH h n := by obtain ⟨d, x, dm, pc, lm, rd, calls, b, k, dk, bs, cv, sv, tv, cur, S, _⟩ := D; exact S.fr
  have plain := slR1_ok (m := m) (tx := .oth (.rx (ps.map Ly) ps.length 1)) (sz := fv) (rv := rv) D (Nat.le_refl _) (fun q _ => rfl) fr hcs hcp (by omega) hov hos hi2 ht hC (by omega)
  obtain ⟨h1, n1, f1, sp1, now1, turn1, e1, b1, b2, D1, k1⟩ := plain
  simp only [Q0] at e1
  by_cases hif:i<fs.length
  · rcases hfv with ⟨_, rfl⟩ | rfl
    · cases hif
    have hr := hf2 _ (List.getElem_mem hif)
    have hdf:(fs.map (RV.i .i64)).drop i=RV.i .i64 fs[i]::(fs.map (RV.i .i64)).drop (i+1) := by rw [List.drop_eq_getElem_cons (by simpa using hif)]; simp
    generalize fs[i]=r at hr hdf
    rcases (by omega:9223372036854775808≤r∨r≤100∨(4200≤r∧r<9223372036854775808)∨(100<r∧r<4200)) with hc | hc | hc | hc
    · refine ⟨h1, n1, f1, sp1, now1, turn1, cutW ps[i], ?_, by omega, D1, k1⟩
      unfold slB
      simp (config := {maxSteps := 3000000}) (disch := omega) only [qa,g0,g1,g2,g3,g4,g5,g6,g7,g8,g9,BB,BC,Bq,BA,By,Bw,BD,BH,Bp,BK,w0,w1,w2,w3,w4,w5,w6,w7,w8,w9,BF,Bz,Bx,BE,BI,Bv,BG,BJ,Bu,BL,Mk,Nat.reduceAdd,Nat.reduceSub,Nat.reduceMul,Nat.reduceMod,Nat.reduceDiv,Q0,U,decide_eq_true hi,decide_eq_true hif,Fg,Fe,KJ,hdr,hdf,L1,rvi_v,ec,hl,e1]
    · refine ⟨h1, n1, f1, sp1, now1, turn1, cutW ps[i], ?_, by omega, D1, k1⟩
      unfold slB
      simp (config := {maxSteps := 3000000}) (disch := omega) only [qa,g0,g1,g2,g3,g4,g5,g6,g7,g8,g9,BB,BC,Bq,BA,By,Bw,BD,BH,Bp,BK,w0,w1,w2,w3,w4,w5,w6,w7,w8,w9,BF,Bz,Bx,BE,BI,Bv,BG,BJ,Bu,BL,Mk,Nat.reduceAdd,Nat.reduceSub,Nat.reduceMul,Nat.reduceMod,Nat.reduceDiv,Q0,U,decide_eq_true hi,decide_eq_true hif,Fg,Fe,KJ,hdr,hdf,L1,rvi_v,ec,hl,e1]
    · refine ⟨h1, n1, f1, sp1, now1, turn1, cutW ps[i], ?_, by omega, D1, k1⟩
      unfold slB
      simp (config := {maxSteps := 3000000}) (disch := omega) only [qa,g0,g1,g2,g3,g4,g5,g6,g7,g8,g9,BB,BC,Bq,BA,By,Bw,BD,BH,Bp,BK,w0,w1,w2,w3,w4,w5,w6,w7,w8,w9,BF,Bz,Bx,BE,BI,Bv,BG,BJ,Bu,BL,Mk,Nat.reduceAdd,Nat.reduceSub,Nat.reduceMul,Nat.reduceMod,Nat.reduceDiv,Q0,U,decide_eq_true hi,decide_eq_true hif,Fg,Fe,KJ,hdr,hdf,L1,rvi_v,ec,hl,e1]
    · clear e1 b1 b2 D1 k1
      obtain ⟨c2, h2, n2, e2, o2, b1, b2, g2', r2⟩ := GO (lo := n.toN) (n := n) (h := h) (c := .nil .sl) (l := []) .nil hcs (Nat.le_refl _) (by simp; omega) (by omega)
      rw [List.nil_append] at o2
      obtain ⟨c3, h3, n3, e3, o3, b3, b4, g3', r3⟩ := grow o2 (b := List.replicate r 0) (by omega) (by rw [List.length_replicate]; omega) (by omega) (y := cb (List.replicate r 0)) (fun _ => rfl)
      rw [List.length_replicate] at e3
      have ez:∀ κ:KV, Fh 1 1 true [iB 0] c2 (.int .i64 r) h2 n2 κ=κ c3 h3 n3 := fun κ => (NH c2 (by omega) h2 n2 κ).trans (e3 κ)
      obtain ⟨h4, n4, f4, sp4, now4, turn4, e4, b5, b6, D4, k4⟩ := slR1_ok (m := m) (tx := .oth (.rx (ps.map Ly) ps.length 1)) (sz := .oth (.rx (fs.map (RV.i .i64)) fs.length 1)) (rv := rv) D (n := n3) (h := h3) (by omega) (fun q hq => (g3' q hq).trans (g2' q hq)) (r3 (r2 fr)) o3.src (fun p hp => by
        obtain ⟨off, cap, ex, e⟩ := hp
        rcases o3 with ⟨h, _⟩ | ⟨p', ex', pr, h, _, q1, q2, _⟩
        · rw [h] at e; cases e
        · rw [h] at e; cases e; exact ⟨q1, q2⟩) (by rw [List.length_append, List.length_replicate]; omega) hov hos hi2 ht hC (by omega)
      refine ⟨h4, n4, f4, sp4, now4, turn4, c3, ?_, by omega, D4, k4⟩
      simp only [Q0] at e4
      unfold slB
      simp (config := {maxSteps := 3000000}) (disch := omega) only [qa,g0,g1,g2,g3,g4,g5,g6,g7,g8,g9,BB,BC,Bq,BA,By,Bw,BD,BH,Bp,BK,w0,w1,w2,w3,w4,w5,w6,w7,w8,w9,BF,Bz,Bx,BE,BI,Bv,BG,BJ,Bu,BL,Mk,Nat.reduceAdd,Nat.reduceSub,Nat.reduceMul,Nat.reduceMod,Nat.reduceDiv,Q0,U,decide_eq_true hi,decide_eq_true hif,Fg,Fe,KJ,hdr,hdf,L1,rvi_v,ec,hl,e2,KO,ez,e4]
  · refine ⟨h1, n1, f1, sp1, now1, turn1, cutW ps[i], ?_, by omega, D1, k1⟩
    unfold slB
    simp (config := {maxSteps := 3000000}) (disch := omega) only [qa,g0,g1,g2,g3,g4,g5,g6,g7,g8,g9,BB,BC,Bq,BA,By,Bw,BD,BH,Bp,BK,w0,w1,w2,w3,w4,w5,w6,w7,w8,w9,BF,Bz,Bx,BE,BI,Bv,BG,BJ,Bu,BL,Mk,Nat.reduceAdd,Nat.reduceSub,Nat.reduceMul,Nat.reduceMod,Nat.reduceDiv,Q0,U,decide_eq_true hi,decide_eq_false hif,Fg,Fe,KJ,hdr,L1,ec,hl,e1]
theorem slB_out {m:Nat} {ps:List (Option (List UInt8))} {fv ov rv bv fp sv tv:V} {now:List UInt8} {i:Nat} {h:Heap} {n:K4} (hps:ps.length<9223372036854775808) (hi:¬ (i<ps.length∧i<20)) (hi2:i≤20) :
    slB (Ap tab m) (.mk (.mk (.oth (.rx (ps.map Ly) ps.length 1)) fv ov rv) (.mk fp sv (sb now) tv) (.mk (.int .i64 i) bv AO AO) Q0 Q0 Q0 Q0 Q0) h n = .ok (.exit 0) (.mk (.mk (.oth (.rx (ps.map Ly) ps.length 1)) fv ov rv) (.mk fp sv (sb now) tv) (.mk (.int .i64 i) bv AO AO) Q0 Q0 Q0 Q0 Q0) h n := by
  unfold slB
  by_cases h1:i<ps.length
  · obtain rfl:i=20 := by omega
    simp (disch := omega) only [qa,g0,g1,g2,g3,g4,g5,g6,g7,g8,g9,BB,BC,Bq,BA,By,Bw,BD,BH,Bp,BK,w0,w1,w2,w3,w4,w5,w6,w7,w8,w9,BF,Bz,Bx,BE,BI,Bv,BG,BJ,Bu,BL,Mk,Nat.reduceAdd,Nat.reduceSub,Nat.reduceMul,Nat.reduceMod,Nat.reduceDiv,Q0,U,decide_eq_true h1,Fe,Fg]
  · simp (disch := omega) only [qa,g0,g1,g2,g3,g4,g5,g6,g7,g8,g9,BB,BC,Bq,BA,By,Bw,BD,BH,Bp,BK,w0,w1,w2,w3,w4,w5,w6,w7,w8,w9,BF,Bz,Bx,BE,BI,Bv,BG,BJ,Bu,BL,Mk,Nat.reduceAdd,Nat.reduceSub,Nat.reduceMul,Nat.reduceMod,Nat.reduceDiv,Q0,U,decide_eq_false h1,Fe,Fg]
theorem sl_loop {m:Nat} {ps:List (Option (List UInt8))} {fs:List Nat} {os:List Bool} {fv ov rv:V} (hps:ps.length<9223372036854775808) (hp2:∀ o∈ps, ∀ b, o=some b->b.length<9223372036854775808) (hfl:fs.length<9223372036854775808) (hf2:∀ r∈fs, r<18446744073709551616) (hfv:FV fv fs) (hos:os.length<9223372036854775808) (hov:BV ov os) :
    ∀ (j i:Nat) (h:Heap) (n f sp:K4) (now:List UInt8) (turn C:Nat) (bv:V), i+j=min ps.length 20->AS h n f sp now turn C->turn≤1+i->C≤10+2*i->n.toN≤6000+i*300 →
    ∃ h' n' f' sp' now' turn' C' bv' i', (∀ K, DX (slB (Ap tab (m+12))) (K+j+1) (.mk (.mk (.oth (.rx (ps.map Ly) ps.length 1)) fv ov rv) (.mk (.ptr f 0) (.ptr sp 0) (sb now) (.int .u64 turn)) (.mk (.int .i64 i) bv AO AO) Q0 Q0 Q0 Q0 Q0) h n =
      .ok (.exit 0) (.mk (.mk (.oth (.rx (ps.map Ly) ps.length 1)) fv ov rv) (.mk (.ptr f' 0) (.ptr sp' 0) (sb now') (.int .u64 turn')) (.mk (.int .i64 i') bv' AO AO) Q0 Q0 Q0 Q0 Q0) h' n')∧AS h' n' f' sp' now' turn' C' := by
  intro j
  induction j with
  | zero =>
    intro i h n f sp now turn C bv hi D k1 k2 k3
    refine ⟨h, n, f, sp, now, turn, C, bv, i, fun K => ?_, D⟩
    rw [E8, slB_out hps (by omega) (by omega), My]
  | succ j ih =>
    intro i h n f sp now turn C bv hi D k1 k2 k3
    obtain ⟨h1, n1, f1, sp1, now1, turn1, bv1, e1, b1, D1, c1⟩ := slB_in (m := m) (rv := rv) (bv := bv) hps hp2 hfl hf2 hfv hos hov (i := i) (by omega) (by omega) D (by omega) (by omega) (by omega)
    have q1:turn1≤1+(i+1) := by omega
    have q2:C+2≤10+2*(i+1) := by omega
    have q3:n1.toN≤6000+(i+1)*300 := by omega
    have hi1:i+1+j=min ps.length 20 := by rw [←hi, Nat.add_assoc, Nat.add_comm 1 j]
    obtain ⟨h2, n2, f2, sp2, now2, turn2, C2, bv2, i2, e2, D2⟩ := ih (i+1) h1 n1 f1 sp1 now1 turn1 (C+2) bv1 hi1 D1 q1 q2 q3
    refine ⟨h2, n2, f2, sp2, now2, turn2, C2, bv2, i2, fun K => ?_, D2⟩
    rw [E8, e1, H3]
    exact e2 K
theorem Qg:Rt (Ap tab 31 ⟨.d0, .d0, .d5⟩ [.nil .sl, .oth .any, .oth .any] AE XG)=true := by kernel_rfl
theorem sl_run {ps:List (Option (List UInt8))} {fs:List Nat} {os:List Bool} {fv ov:V} (hps:ps.length<9223372036854775808) (hp2:∀ o∈ps, ∀ b, o=some b->b.length<9223372036854775808) (hfl:fs.length<9223372036854775808) (hf2:∀ r∈fs, r<18446744073709551616) (hfv:FV fv fs) (hos:os.length<9223372036854775808) (hov:BV ov os) :
    Rt (Ap tab 31 ⟨.d0, .d0, .d5⟩ [.oth (.rx (ps.map Ly) ps.length 1), fv, ov] AE XG)=true := by
  obtain ⟨h1, n1, e1, b1, f1⟩ := VC begun9
  have u1 := K4.up_toN (p := n1) (by omega)
  have u2 := K4.up_toN (p := n1.up) (by omega)
  have u3 := K4.up_toN (p := n1.up.up) (by omega)
  have e2 := new_ok (m := 27) (h := h1) (n := n1) (room := 100000) (by omega) (by omega)
  rw [show 27+3=30 from rfl] at e2
  generalize hA:Af n1.up.up (Af n1.up (Af n1 h1 (some (.m [] [] 0))) (some (.m [] [] 0))) (some (.c (.l (fsC 100000 0 0 18446744073709551615 (.map n1) (.map n1.up) (.nil .sl))) false none))=A at e2
  have a1:A9 n1.up.up A=some (.c (.l (fsC 100000 0 0 18446744073709551615 (.map n1) (.map n1.up) (.nil .sl))) false none) := by rw [←hA, A7]
  have a2:A9 n1 A=some (.m [] [] 0) := by rw [←hA]; simp (disch := omega) only [Am,AB,A7]
  have a3:AH A n1.up.up.up := fun q hq => by rw [←hA]; simp (disch := omega) only [AB]; exact f1 q (by omega)
  obtain ⟨h2, n2, x, dm, pc, lm, sp, cv, sv, tv, e3, b3, b3', S, m3⟩ := screate_ok (m := 18) (n := n1.up.up.up) (h := A) (v := .nil .sl) (l := []) a1 a2 a3 (by omega) (by omega) (.inr (.inl ⟨rfl, rfl⟩)) (fun p hp => by obtain ⟨_, _, _, e⟩ := hp; cases e) (by decide) (by omega) (by omega) (by omega) (by omega)
  rw [show 18+12=30 from rfl] at e3
  have I0:IV (imgL []) 0 1 1 [] := IV.first (by decide)
  have O0:rdOK (blk (imgL []) (1 - 0))=true->rdTurn (blk (imgL []) (1 - 0))<1 := fun _ => by rw [img_other (by decide)]; omega
  have D0:AS h2 n2 n1.up.up sp [] 1 5 := ⟨_, x, dm, pc, lm, _, _, _, _, 0, _, cv, sv, tv, 0, S, I0, O0, m3, by omega, by omega⟩
  obtain ⟨h3, n3, f3, sp3, now3, turn3, C3, bv3, i3, eL, D3⟩ := sl_loop (m := 18) (rv := .bool false) hps hp2 hfl hf2 hfv hos hov (min ps.length 20) 0 h2 n2 n1.up.up sp [] 1 5 AO (by omega) D0 (by omega) (by omega) (by omega)
  have eK := eL (999999999 - min ps.length 20)
  rw [show 999999999 - min ps.length 20+min ps.length 20+1=999999999+1 by omega, E8, show sb [] = .str 0 0 from rfl, show 18+12=30 from rfl] at eK
  simp only [Q0] at eK
  obtain ⟨d, x3, dm3, pc3, lm3, rd3, calls3, bb, kk, dk3, bs3, cv3, sv3, tv3, cur3, S3, I3, O3, m03, c1, c2⟩ := D3
  have e4 := size_ok (m := 29) (n := n3) S3.hf S3.hd S3.hx S3.own (by rw [I3.len]; omega)
  rw [show 29+1=30 from rfl, I3.len] at e4
  generalize hR:Ap tab 31 ⟨.d0, .d0, .d5⟩ [.oth (.rx (ps.map Ly) ps.length 1), fv, ov] AE XG=R0
  rw [call2_at, show Bh ⟨.d0, .d0, .d5⟩ tab=some x5 from rfl, x5_L, x5L] at hR
  rw [show iL 1 = .int .u64 1 from rfl] at hR
  simp (config := {maxSteps := 3000000}) (disch := omega) only [qa,g0,g1,g2,g3,g4,g5,g6,g7,g8,g9,BB,BC,Bq,BA,By,Bw,BD,BH,Bp,BK,w0,w1,w2,w3,w4,w5,w6,w7,w8,w9,BF,Bz,Bx,BE,BI,Bv,BG,BJ,Bu,BL,Mk,Nat.reduceAdd,Nat.reduceSub,Nat.reduceMul,Nat.reduceMod,Nat.reduceDiv,Q0,U,en0,e1,e2,e3,F3,eK,e4] at hR
  rw [←hR]; rfl
end Go.Ev.Ytdgefeadbcbglaa
