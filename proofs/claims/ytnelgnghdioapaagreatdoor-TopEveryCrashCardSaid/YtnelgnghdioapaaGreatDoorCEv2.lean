/- AN EVALUATOR OF THE MODEL OF Go, PROVED SOUND, PART 2: what it says of a call holds in every world, on every tape. Conditions: none of its own; each theorem bears its premises. -/
import Derived.Test.YtnelgnghdioapaaGreatDoorCEv1
import Derived.Great.BuildSlice
import Derived.Laws.AppendOwn
import Derived.Laws.BytesString
import Derived.Laws.MakeOwn
import Derived.LoopN
noncomputable section
set_option linter.unusedSimpArgs false
set_option linter.unusedVariables false
namespace Go.Ev
set_option linter.unusedVariables false
section
variable {P:Program} {ρ:Env} {B N:Nat} {o:Oper} {cf:CF} {t:Regs} {h:Heap} {n:K4}
theorem JY {f:KV->R} {v:V} (e:∀ κ,f κ=κ v h n)
  (H:∀ φ a w,TR ρ N φ t a->Gam ρ B h n φ w->∃ x,(execOp a.eval o).run P w = .ok (.value x) w∧AL ρ φ v x):Bl P ρ B N o f t h n :=
 fun κ _=>⟨v,e κ,H⟩
theorem HF {y:Operand} {x:Opd} (ho:o.op = .move y∨o.op = .assign y) (hx:AX N y=some x):Bl P ρ B N o (Ue x cf t h n) t h n :=
 JY (v:=ev x t) (fun κ=>AR x t _) fun φ a w ht hg=>⟨a.eval y,by rcases ho with ho | ho <;> simp [execOp,ho],An hx ht⟩
theorem Kk {c x y:Operand} {c' x' y':Opd} (ho:o.op = .pick c x y) (hc:AX N c=some c') (hx:AX N x=some x') (hy:AX N y=some y') :
  Bl P ρ B N o (Hz c' x' y' cf t h n) t h n:=by
 intro κ hg
 have e:Hz c' x' y' cf t h n κ=OA (ev c' t) fun q=>br q (κ (ev x' t) h n) (κ (ev y' t) h n):=by simp only [Hz,AR]
 rw [e] at hg
 obtain ⟨b,hb,e'⟩:=EA hg
 refine ⟨if b then ev x' t else ev y' t,e.trans (e'.trans (by cases b <;> rfl)),fun φ a w ht hg=>?_⟩
 have h1:=An hc ht
 rw [hb] at h1
 have h1:=Dv h1
 refine ⟨if b then a.eval x else a.eval y,by simp [execOp,ho,h1,asBool],?_⟩
 cases b
 ·exact An hy ht
 ·exact An hx ht
theorem R6 {op:BinOp} {x y:V} {κ:V->R} (h:(MK op x y κ).good) :
  (∃ k a j b,x = .int k a∧y = .int j b∧MK op x y κ=MB op k a j b κ)∨(∃ n c m d,x = .str n c∧y = .str m d∧MK op x y κ=Jm op n c m d κ)∨MK op x y κ=Jv op x y κ ∨ ∃ l0 l1 n c m d,x = .oth (.ss l0 l1 n c)∧y = .str m d∧MK op x y κ=Q7 op l0 l1 n c m d κ:=by
 cases x with
 | int k a =>
  cases y with
  | int j b=>exact .inl ⟨k,a,j,b,rfl,rfl,rfl⟩
  | oth o=>exact .inr (.inr (.inl rfl))
  | _=>exact h.elim
 | str n c =>
  obtain ⟨m,d,rfl,e⟩:=BV (show R.good (Bh y fun m d=>Jm op n c m d κ) from h)
  exact .inr (.inl ⟨n,c,m,d,rfl,rfl,rfl⟩)
 | oth o =>
  have e0:MK op (.oth o) y κ=Cm op (.oth o) y κ:=rfl
  rcases IQ (.oth o) (fun l0 l1 n c=>Bh y fun m d=>Q7 op l0 l1 n c m d κ) (Jv op (.oth o) y κ) with ⟨l0,l1,n,c,e,e1⟩ | e1
  ·rw [e0] at h
   have e1:Cm op (.oth o) y κ=_:=e1
   rw [e1] at h
   obtain ⟨m,d,rfl,e2⟩:=BV h
   exact .inr (.inr (.inr ⟨l0,l1,n,c,m,d,e,rfl,e0.trans (e1.trans e2)⟩))
  ·exact .inr (.inr (.inl (e0.trans e1)))
 | _=>exact h.elim
theorem HW {op:BinOp} {ty yt:TypeId} {x y:Operand} {a:Act} {w:World} {r:Value} (ho:o.op = .binOp op ty x y yt)
  (he:eqGuard op ty x y (a.eval x) (a.eval y)=Pure.pure ()) (hr:(Go.binOp op ty (a.eval x) (a.eval y)).run P w = .ok r w):(execOp a.eval o).run P w = .ok (.value r) w:=by
 simp [execOp,ho,he,hr]
theorem Vq {f:V->R} {c:Bool} {u v:V}:∃ x,br c (f u) (f v)=f x:=by
 cases c
 ·exact ⟨v,rfl⟩
 ·exact ⟨u,rfl⟩
theorem Cl {v:V} {κ:IntKind->Nat->Nat->R} (hg:(Iu v κ).good):∃ k lo hi,Iu v κ=κ k lo hi ∧ ∀ (ρ:Env) (φ:B9) X,AL ρ φ v X->∃ r,lo≤r∧r≤hi∧r<Mk k∧X = .int k (C3 k r):=by
 cases v with
 | int k r=>exact ⟨k,r,r,rfl,fun ρ φ X hx=>by simp only [AL] at hx; exact ⟨r,Nat.le_refl _,Nat.le_refl _,hx.1,hx.2⟩⟩
 | oth o=>cases o with
  | iv k lo hi=>exact ⟨k,lo,hi,rfl,fun ρ φ X hx=>by simpa only [AL] using hx⟩
  | rs m j =>
   obtain ⟨h1,e⟩:=Ap (show R.good (br (Nat.ble 18446744073709551616 m) (br (Nat.ble (Nat.succ m) 36893488147419103232) (κ .i64 0 9223372036854775807) (.fail "")) (.fail "")) from hg)
   have hg:R.good (br (Nat.ble 18446744073709551616 m) (br (Nat.ble (Nat.succ m) 36893488147419103232) (κ .i64 0 9223372036854775807) (.fail "")) (.fail "")):=hg
   rw [e] at hg
   obtain ⟨h2,e2⟩:=Ap hg
   refine ⟨.i64,0,9223372036854775807,e.trans e2,fun ρ φ X hx=>?_⟩
   simp only [AL] at hx
   obtain ⟨z,rfl,z1,z2,z3,z4⟩:=hx
   have:=z4 (Ar.1 h1) (Ar.1 h2)
   refine ⟨z.toNat,by omega,by omega,by simp only [Mk]; omega,?_⟩
   rw [AI (by simp only [Hk]; omega)]
   congr 1; omega
  | sy k i =>
   refine ⟨k,0,Nat.sub (Mk k) 1,rfl,fun ρ φ X hx=>?_⟩
   simp only [AL] at hx
   obtain ⟨_,r,h1,h2⟩:=hx
   exact ⟨r,Nat.zero_le _,show r≤Mk k - 1 by omega,h1,h2⟩
  | _=>exact hg.elim
 | _=>exact hg.elim
theorem DY {k:IntKind} {r s:Nat} (hr:r<Mk k) (hs:s<Mk k):(C3 k r<C3 k s ↔ Bw (Hk k) (Mk k) r<Bw (Hk k) (Mk k) s)∧(C3 k r=C3 k s ↔ Bw (Hk k) (Mk k) r=Bw (Hk k) (Mk k) s):=by
 have hH:=Gg k
 have e:∀ r,r<Mk k->C3 k r=(Bw (Hk k) (Mk k) r:Int) - ((Mk k - Hk k:Nat):Int):=fun r hr=>by
  unfold Bw
  by_cases h:Hk k≤r
  ·rw [Ar.2 h,AZ,Dr (by omega)]
   show _=((r - Hk k:Nat):Int) - _
   omega
  ·rw [Bm (by omega),B2,AI (by omega)]
   show _=((r+(Mk k - Hk k):Nat):Int) - _
   omega
 rw [e r hr,e s hs]
 constructor <;> omega
theorem Ce {H M lo hi r:Nat} (ho:EP H lo hi=true) (h1:lo≤r) (h2:r≤hi):Bw H M lo≤Bw H M r∧Bw H M r≤Bw H M hi:=by
 unfold EP at ho
 unfold Bw
 by_cases h:hi+1≤H
 ·rw [Bm (by omega),Bm (by omega),Bm (by omega)]
  simp only [B2]
  exact ⟨Nat.add_le_add_right h1 _,Nat.add_le_add_right h2 _⟩
 ·rw [Bm (by omega),B2] at ho
  have ho:=Ar.1 ho
  rw [Ar.2 (by omega),Ar.2 (by omega),Ar.2 (by omega)]
  simp only [AZ]
  exact ⟨Nat.sub_le_sub_right h1 _,Nat.sub_le_sub_right h2 _⟩
theorem Eb {ρ:Env} {φ:B9} (b:Bool):AL ρ φ (.oth .bl) (.bool b):=by simp only [AL]; exact ⟨b,rfl⟩
theorem PH (a b c d:Nat) (κ:V->R):∃ v,TS a b c d κ=κ v ∧ ∀ p q,a≤p->p≤b->c≤q->q≤d->∀ (ρ:Env) (φ:B9),AL ρ φ v (.bool (decide (p<q))):=by
 unfold TS
 by_cases h1:b+1≤c
 ·exact ⟨.bool true,by rw [Ar.2 h1,AZ],fun p q _ _ _ _ ρ φ=>by rw [decide_eq_true (by omega)]; exact BF _ ρ φ⟩
 ·rw [Bm (by omega),B2]
  by_cases h2:d≤a
  ·exact ⟨.bool false,by rw [Ar.2 h2,AZ],fun p q _ _ _ _ ρ φ=>by rw [decide_eq_false (by omega)]; exact BF _ ρ φ⟩
  ·exact ⟨_,by rw [Bm (by omega),B2],fun p q _ _ _ _ ρ φ=>Eb _⟩
theorem Ql (a b c d:Nat) (κ:V->R):∃ v,TK a b c d κ=κ v ∧ ∀ p q,a≤p->p≤b->c≤q->q≤d->∀ (ρ:Env) (φ:B9),AL ρ φ v (.bool (decide (q≤p))):=by
 unfold TK
 by_cases h1:b+1≤c
 ·exact ⟨.bool false,by rw [Ar.2 h1,AZ],fun p q _ _ _ _ ρ φ=>by rw [decide_eq_false (by omega)]; exact BF _ ρ φ⟩
 ·rw [Bm (by omega),B2]
  by_cases h2:d≤a
  ·exact ⟨.bool true,by rw [Ar.2 h2,AZ],fun p q _ _ _ _ ρ φ=>by rw [decide_eq_true (by omega)]; exact BF _ ρ φ⟩
  ·exact ⟨_,by rw [Bm (by omega),B2],fun p q _ _ _ _ ρ φ=>Eb _⟩
theorem LG {a b c d:Nat} (h:Mu a b c d=true):a=b∧b=c∧c=d:=by
 unfold Mu at h
 cases h1:Nat.beq a b with
 | false=>rw [h1] at h; cases h
 | true =>
  rw [h1,AZ] at h
  cases h2:Nat.beq b c with
  | false=>rw [h2] at h; cases h
  | true=>rw [h2,AZ] at h; exact ⟨Nat.eq_of_beq_eq_true h1,Nat.eq_of_beq_eq_true h2,Nat.eq_of_beq_eq_true h⟩
theorem TU (a b c d:Nat) (κ:V->R):∃ v,Vc a b c d κ=κ v ∧ ∀ p q,a≤p->p≤b->c≤q->q≤d->∀ (ρ:Env) (φ:B9),AL ρ φ v (.bool (decide (p=q))):=by
 unfold Vc
 by_cases h1:b+1≤c
 ·exact ⟨.bool false,by rw [Ar.2 h1,AZ],fun p q _ _ _ _ ρ φ=>by rw [decide_eq_false (by omega)]; exact BF _ ρ φ⟩
 ·rw [Bm (by omega),B2]
  by_cases h2:d+1≤a
  ·exact ⟨.bool false,by rw [Ar.2 h2,AZ],fun p q _ _ _ _ ρ φ=>by rw [decide_eq_false (by omega)]; exact BF _ ρ φ⟩
  ·rw [Bm (by omega),B2]
   cases h3:Mu a b c d with
   | true=>obtain ⟨h4,h5,h6⟩:=LG h3; exact ⟨.bool true,by rw [AZ],fun p q _ _ _ _ ρ φ=>by rw [decide_eq_true (by omega)]; exact BF _ ρ φ⟩
   | false=>exact ⟨_,by rw [B2],fun p q _ _ _ _ ρ φ=>Eb _⟩
theorem Tz (a b c d:Nat) (κ:V->R):∃ v,UG a b c d κ=κ v ∧ ∀ p q,a≤p->p≤b->c≤q->q≤d->∀ (ρ:Env) (φ:B9),AL ρ φ v (.bool (decide (p≠q))):=by
 unfold UG
 by_cases h1:b+1≤c
 ·exact ⟨.bool true,by rw [Ar.2 h1,AZ],fun p q _ _ _ _ ρ φ=>by rw [decide_eq_true (by omega)]; exact BF _ ρ φ⟩
 ·rw [Bm (by omega),B2]
  by_cases h2:d+1≤a
  ·exact ⟨.bool true,by rw [Ar.2 h2,AZ],fun p q _ _ _ _ ρ φ=>by rw [decide_eq_true (by omega)]; exact BF _ ρ φ⟩
  ·rw [Bm (by omega),B2]
   cases h3:Mu a b c d with
   | true=>obtain ⟨h4,h5,h6⟩:=LG h3; exact ⟨.bool false,by rw [AZ],fun p q _ _ _ _ ρ φ=>by rw [decide_eq_false (by omega)]; exact BF _ ρ φ⟩
   | false=>exact ⟨_,by rw [B2],fun p q _ _ _ _ ρ φ=>Eb _⟩
theorem OS {op:BinOp} {κ:V->R} (hg:(H8 op κ).good):H8 op κ=κ (.oth .bl) ∧ ∀ k p q,E6 op (.int k p) (.int k q) (.oth .bl):=by
 cases op with
 | lss=>exact ⟨rfl,fun k p q=>⟨.bool (decide (p<q)),fun P t w=>by rw [binOp_lss,Sem.run_pure],fun ρ φ=>Eb _⟩⟩
 | gtr=>exact ⟨rfl,fun k p q=>⟨.bool (decide (p > q)),fun P t w=>by rw [binOp_gtr,Sem.run_pure],fun ρ φ=>Eb _⟩⟩
 | leq=>exact ⟨rfl,fun k p q=>⟨.bool (decide (p≤q)),fun P t w=>by rw [binOp_leq,Sem.run_pure],fun ρ φ=>Eb _⟩⟩
 | geq=>exact ⟨rfl,fun k p q=>⟨.bool (decide (p ≥ q)),fun P t w=>by rw [binOp_geq,Sem.run_pure],fun ρ φ=>Eb _⟩⟩
 | eql=>exact ⟨rfl,fun k p q=>⟨.bool (p == q),fun P t w=>by rw [binOp_eql,Sem.run_pure],fun ρ φ=>Eb _⟩⟩
 | neq=>exact ⟨rfl,fun k p q=>⟨.bool (p != q),fun P t w=>by rw [binOp_neq,Sem.run_pure],fun ρ φ=>Eb _⟩⟩
 | _=>exact hg.elim
theorem QD {op:BinOp} {x y:V} {κ:V->R} (hg:(G5 op x y κ).good):∃ v,G5 op x y κ=κ v ∧ ∀ (ρ:Env) (φ:B9) X Y,AL ρ φ x X->AL ρ φ y Y →
  ∃ k p q,X = .int k p∧Y = .int k q∧E6 op X Y v:=by
 unfold G5 at hg ⊢
 obtain ⟨k,a,b,e1,H1⟩:=Cl hg
 rw [e1] at hg ⊢
 obtain ⟨j,c,d,e2,H2⟩:=Cl hg
 rw [e2] at hg ⊢
 obtain ⟨hk,e3⟩:=Ap hg
 rw [e3] at hg ⊢
 obtain rfl:=Bi.1 hk
 have any0:∀ {κ':V->R},(H8 op κ').good->∃ v,H8 op κ'=κ' v ∧ ∀ (ρ:Env) (φ:B9) X Y,AL ρ φ x X->AL ρ φ y Y->∃ k p q,X = .int k p∧Y = .int k q∧E6 op X Y v:=fun hg=>by
  obtain ⟨e,H⟩:=OS hg
  refine ⟨_,e,fun ρ φ X Y hX hY=>?_⟩
  obtain ⟨r,r1,r2,r3,rfl⟩:=H1 ρ φ X hX
  obtain ⟨s,s1,s2,s3,rfl⟩:=H2 ρ φ Y hY
  exact ⟨k,_,_,rfl,rfl,H k _ _⟩
 have any:∀ {κ':V->R},(RK op a b c d κ').good->∃ v,RK op a b c d κ'=κ' v ∧ ∀ (ρ:Env) (φ:B9) X Y,AL ρ φ x X->AL ρ φ y Y->∃ k p q,X = .int k p∧Y = .int k q∧E6 op X Y v:=fun {κ'} hg=>by
  unfold RK at hg ⊢
  cases ha:br (Nat.ble (Nat.succ b) c) true (Nat.ble (Nat.succ d) a) with
  | false=>rw [ha] at hg; exact any0 hg
  | true =>
   rw [ha] at hg
   have hap:b<c∨d<a:=by
    cases h1:Nat.ble (Nat.succ b) c with
    | true=>exact .inl (Ar.1 h1)
    | false =>
     rw [h1] at ha
     exact .inr (Ar.1 (show Nat.ble (Nat.succ d) a=true from ha))
   have ne:∀ (ρ:Env) (φ:B9) X Y,AL ρ φ x X->AL ρ φ y Y->∃ r s,X = .int k (C3 k r)∧Y = .int k (C3 k s)∧C3 k r≠C3 k s:=fun ρ φ X Y hX hY=>by
    obtain ⟨r,r1,r2,r3,rfl⟩:=H1 ρ φ X hX
    obtain ⟨s,s1,s2,s3,rfl⟩:=H2 ρ φ Y hY
    exact ⟨r,s,rfl,rfl,fun h=>by have:=Jx r3 s3 h; omega⟩
   by_cases he:op = .eql
   ·subst he
    refine ⟨.bool false,rfl,fun ρ φ X Y hX hY=>?_⟩
    obtain ⟨r,s,rfl,rfl,h⟩:=ne ρ φ X Y hX hY
    refine ⟨k,_,_,rfl,rfl,.bool false,fun P t w=>?_,fun ρ φ=>by simp only [AL]⟩
    rw [binOp_eql,Sem.run_pure]
    congr 2
    exact beq_false_of_ne h
   ·by_cases he2:op = .neq
    ·subst he2
     refine ⟨.bool true,rfl,fun ρ φ X Y hX hY=>?_⟩
     obtain ⟨r,s,rfl,rfl,h⟩:=ne ρ φ X Y hX hY
     refine ⟨k,_,_,rfl,rfl,.bool true,fun P t w=>?_,fun ρ φ=>by simp only [AL]⟩
     rw [binOp_neq,Sem.run_pure]
     congr 2
     exact bne_iff_ne.2 h
    ·have e:U1 op κ' (H8 op κ')=H8 op κ':=by cases op <;> first | rfl | exact absurd rfl he | exact absurd rfl he2
     have hg:(U1 op κ' (H8 op κ')).good:=hg
     rw [e] at hg
     show ∃ v,U1 op κ' (H8 op κ')=_∧_
     rw [e]
     exact any0 hg
 cases o1:EP (Hk k) a b with
 | false=>rw [o1] at hg; exact any hg
 | true =>
 rw [o1,AZ] at hg
 show ∃ v,br (EP (Hk k) c d) _ _=_∧_
 cases o2:EP (Hk k) c d with
 | false=>rw [o2] at hg; exact any hg
 | true =>
 rw [o2,AZ] at hg
 show ∃ v,VI op _ _ _ _ κ=_∧_
 have bd:∀ (ρ:Env) (φ:B9) X Y,AL ρ φ x X->AL ρ φ y Y->∃ r s,X = .int k (C3 k r)∧Y = .int k (C3 k s)∧r<Mk k∧s<Mk k ∧
   Bw (Hk k) (Mk k) a≤Bw (Hk k) (Mk k) r∧Bw (Hk k) (Mk k) r≤Bw (Hk k) (Mk k) b∧Bw (Hk k) (Mk k) c≤Bw (Hk k) (Mk k) s∧Bw (Hk k) (Mk k) s≤Bw (Hk k) (Mk k) d:=fun ρ φ X Y hX hY=>by
  obtain ⟨r,r1,r2,r3,rfl⟩:=H1 ρ φ X hX
  obtain ⟨s,s1,s2,s3,rfl⟩:=H2 ρ φ Y hY
  have:=Ce (M:=Mk k) o1 r1 r2
  have:=Ce (M:=Mk k) o2 s1 s2
  exact ⟨r,s,rfl,rfl,r3,s3,by omega,by omega,by omega,by omega⟩
 cases op with
 | lss =>
  obtain ⟨v,e,H⟩:=PH (Bw (Hk k) (Mk k) a) (Bw (Hk k) (Mk k) b) (Bw (Hk k) (Mk k) c) (Bw (Hk k) (Mk k) d) κ
  refine ⟨v,e,fun ρ φ X Y hX hY=>?_⟩
  obtain ⟨r,s,rfl,rfl,hr,hs,k1,k2,k3,k4⟩:=bd ρ φ X Y hX hY
  refine ⟨k,_,_,rfl,rfl,.bool (decide (Bw (Hk k) (Mk k) r<Bw (Hk k) (Mk k) s)),fun P t w=>?_,fun ρ φ=>H _ _ k1 k2 k3 k4 ρ φ⟩
  rw [binOp_lss,Sem.run_pure,decide_eq_decide.2 (DY hr hs).1]
 | gtr =>
  obtain ⟨v,e,H⟩:=PH (Bw (Hk k) (Mk k) c) (Bw (Hk k) (Mk k) d) (Bw (Hk k) (Mk k) a) (Bw (Hk k) (Mk k) b) κ
  refine ⟨v,e,fun ρ φ X Y hX hY=>?_⟩
  obtain ⟨r,s,rfl,rfl,hr,hs,k1,k2,k3,k4⟩:=bd ρ φ X Y hX hY
  refine ⟨k,_,_,rfl,rfl,.bool (decide (Bw (Hk k) (Mk k) s<Bw (Hk k) (Mk k) r)),fun P t w=>?_,fun ρ φ=>H _ _ k3 k4 k1 k2 ρ φ⟩
  rw [binOp_gtr,Sem.run_pure]
  congr 2
  exact decide_eq_decide.2 (DY hs hr).1
 | leq =>
  obtain ⟨v,e,H⟩:=Ql (Bw (Hk k) (Mk k) c) (Bw (Hk k) (Mk k) d) (Bw (Hk k) (Mk k) a) (Bw (Hk k) (Mk k) b) κ
  refine ⟨v,e,fun ρ φ X Y hX hY=>?_⟩
  obtain ⟨r,s,rfl,rfl,hr,hs,k1,k2,k3,k4⟩:=bd ρ φ X Y hX hY
  refine ⟨k,_,_,rfl,rfl,.bool (decide (Bw (Hk k) (Mk k) r≤Bw (Hk k) (Mk k) s)),fun P t w=>?_,fun ρ φ=>H _ _ k3 k4 k1 k2 ρ φ⟩
  rw [binOp_leq,Sem.run_pure]
  congr 2
  exact decide_eq_decide.2 (by have:=(DY hs hr).1; omega)
 | geq =>
  obtain ⟨v,e,H⟩:=Ql (Bw (Hk k) (Mk k) a) (Bw (Hk k) (Mk k) b) (Bw (Hk k) (Mk k) c) (Bw (Hk k) (Mk k) d) κ
  refine ⟨v,e,fun ρ φ X Y hX hY=>?_⟩
  obtain ⟨r,s,rfl,rfl,hr,hs,k1,k2,k3,k4⟩:=bd ρ φ X Y hX hY
  refine ⟨k,_,_,rfl,rfl,.bool (decide (Bw (Hk k) (Mk k) s≤Bw (Hk k) (Mk k) r)),fun P t w=>?_,fun ρ φ=>H _ _ k1 k2 k3 k4 ρ φ⟩
  rw [binOp_geq,Sem.run_pure]
  congr 2
  exact decide_eq_decide.2 (by have:=(DY hr hs).1; omega)
 | eql =>
  obtain ⟨v,e,H⟩:=TU (Bw (Hk k) (Mk k) a) (Bw (Hk k) (Mk k) b) (Bw (Hk k) (Mk k) c) (Bw (Hk k) (Mk k) d) κ
  refine ⟨v,e,fun ρ φ X Y hX hY=>?_⟩
  obtain ⟨r,s,rfl,rfl,hr,hs,k1,k2,k3,k4⟩:=bd ρ φ X Y hX hY
  refine ⟨k,_,_,rfl,rfl,.bool (decide (Bw (Hk k) (Mk k) r=Bw (Hk k) (Mk k) s)),fun P t w=>?_,fun ρ φ=>H _ _ k1 k2 k3 k4 ρ φ⟩
  rw [binOp_eql,Sem.run_pure]
  congr 2
  rw [Bool.eq_iff_iff,beq_iff_eq,decide_eq_true_iff]
  exact (DY hr hs).2
 | neq =>
  obtain ⟨v,e,H⟩:=Tz (Bw (Hk k) (Mk k) a) (Bw (Hk k) (Mk k) b) (Bw (Hk k) (Mk k) c) (Bw (Hk k) (Mk k) d) κ
  refine ⟨v,e,fun ρ φ X Y hX hY=>?_⟩
  obtain ⟨r,s,rfl,rfl,hr,hs,k1,k2,k3,k4⟩:=bd ρ φ X Y hX hY
  refine ⟨k,_,_,rfl,rfl,.bool (decide (Bw (Hk k) (Mk k) r≠Bw (Hk k) (Mk k) s)),fun P t w=>?_,fun ρ φ=>H _ _ k1 k2 k3 k4 ρ φ⟩
  rw [binOp_neq,Sem.run_pure]
  congr 2
  rw [Bool.eq_iff_iff,bne_iff_ne,decide_eq_true_iff]
  exact not_congr (DY hr hs).2
 | _=>exact hg.elim
theorem UL {k:IntKind} {r s:Nat} (hr:r<Mk k) (hs:s<Mk k) (h:r+s<Hk k):E6 .add (.int k (C3 k r)) (.int k (C3 k s)) (.int k (r+s)):=by
 have e0:MB .add k r k s (fun v=>R.rv v AF ⟨.d0,.d0,.d0,.d0⟩)=R.rv (.int k (r+s)) AF ⟨.d0,.d0,.d0,.d0⟩:=by
  show br (Bn k k) (Ak (Nat.mod (Nat.add r s) (Mk k)) fun r=>R.rv (.int k r) AF ⟨.d0,.d0,.d0,.d0⟩) (.fail "")=_
  rw [Bi.2 rfl,AZ,Ai]
  show R.rv (.int k ((r+s) % Mk k)) _ _=_
  rw [Nat.mod_eq_of_lt (Nat.lt_of_lt_of_le h (Gg k))]
 obtain ⟨v,e,H⟩:=GU .add k r k s (fun v=>R.rv v AF ⟨.d0,.d0,.d0,.d0⟩) hr hs (by rw [e0]; trivial)
 rw [e0] at e
 cases e
 exact H
theorem UU {k:IntKind} {r s:Nat} (hr:r<Mk k) (hs:s<Mk k) (h:s≤r):E6 .sub (.int k (C3 k r)) (.int k (C3 k s)) (.int k (r - s)):=by
 have e0:MB .sub k r k s (fun v=>R.rv v AF ⟨.d0,.d0,.d0,.d0⟩)=R.rv (.int k (r - s)) AF ⟨.d0,.d0,.d0,.d0⟩:=by
  show br (Bn k k) (Ak (Nat.mod (Nat.add r (Nat.sub (Mk k) s)) (Mk k)) fun r=>R.rv (.int k r) AF ⟨.d0,.d0,.d0,.d0⟩) (.fail "")=_
  rw [Bi.2 rfl,AZ,Ai]
  show R.rv (.int k ((r+(Mk k - s)) % Mk k)) _ _=_
  rw [show r+(Mk k - s)=r - s+Mk k by omega,Nat.add_mod_right,Nat.mod_eq_of_lt (by omega)]
 obtain ⟨v,e,H⟩:=GU .sub k r k s (fun v=>R.rv v AF ⟨.d0,.d0,.d0,.d0⟩) hr hs (by rw [e0]; trivial)
 rw [e0] at e
 cases e
 exact H
theorem E6.iv {op:BinOp} {x y:Value} {k:IntKind} {r lo hi:Nat} (h:E6 op x y (.int k r)) (h1:lo≤r) (h2:r≤hi):E6 op x y (.oth (.iv k lo hi)):=by
 obtain ⟨z,hz,hr⟩:=h
 refine ⟨z,hz,fun ρ φ=>?_⟩
 have:=hr ρ φ
 simp only [AL] at this ⊢
 exact ⟨r,h1,h2,this.1,this.2⟩
theorem RW {r b:Nat} (h1:r<Hk .i64) (h2:b<Hk .i64) (h3:1≤b):E6 .rem (.int .i64 (C3 .i64 r)) (.int .i64 (C3 .i64 b)) (.int .i64 (r % b)):=by
 have hd:r % b<Hk .i64:=Nat.lt_of_le_of_lt (Nat.mod_le r b) h1
 have hp:Om .i64 r .i64 b (br (Nat.ble 1 b) (Ak (Nat.mod r b) fun r=>R.rv (.int .i64 r) AF ⟨.d0,.d0,.d0,.d0⟩) (.fail ""))=R.rv (.int .i64 (r % b)) AF ⟨.d0,.d0,.d0,.d0⟩:=by
  unfold Om
  rw [Bi.2 rfl,AZ,Ar.2 (show r+1≤Hk .i64 from h1),AZ,Ar.2 (show b+1≤Hk .i64 from h2),AZ,Ar.2 h3,AZ,Ai]
  rfl
 have hp:MB .rem .i64 r .i64 b (fun v=>R.rv v AF ⟨.d0,.d0,.d0,.d0⟩)=R.rv (.int .i64 (r % b)) AF ⟨.d0,.d0,.d0,.d0⟩:=hp
 obtain ⟨v,e,H⟩:=GU .rem .i64 r .i64 b (fun v=>R.rv v AF ⟨.d0,.d0,.d0,.d0⟩) (Nat.lt_of_lt_of_le h1 (Gg .i64)) (Nat.lt_of_lt_of_le h2 (Gg .i64)) (by rw [hp]; trivial)
 rw [hp] at e
 cases e
 exact H
theorem U6 {p:Int} {b:Nat} (p1 : -9223372036854775808≤p) (p2:p<9223372036854775808) (h1:1≤b) (h2:b<Hk .i64):E6 .rem (.int .i64 p) (.int .i64 (C3 .i64 b)) (.oth (.iv .i64 0 18446744073709551615)):=by
 have hz:(p.tmod b).natAbs<9223372036854775808:=by
  rw [Int.natAbs_tmod]
  have h2:b<9223372036854775808:=h2
  have:=Nat.mod_lt p.natAbs (show (b:Int).natAbs > 0 by omega)
  omega
 refine ⟨.int .i64 (p.tmod b),fun P t w=>?_,fun ρ φ=>?_⟩
 ·rw [AI h2,binOp_rem]
  simp only [Op.intDiv]
  rw [if_neg (by omega)]
  simp only [Sem.run_pure]
 ·simp only [AL]
  generalize p.tmod b=z at hz
  by_cases h0:0≤z
  ·refine ⟨z.toNat,Nat.zero_le _,by omega,by simp only [Mk]; omega,?_⟩
   rw [AI (by simp only [Hk]; omega)]; congr 1; omega
  ·refine ⟨(z+18446744073709551616).toNat,Nat.zero_le _,by omega,by simp only [Mk]; omega,?_⟩
   rw [Dr (by simp only [Hk]; omega)]; congr 1; simp only [Mk]; omega
theorem Pa {x y:V} {κ:V->R} (hg:(Q9 x y κ).good):∃ v,Q9 x y κ=κ v ∧ ∀ (ρ:Env) (φ:B9) X Y,AL ρ φ x X->AL ρ φ y Y →
  ∃ k p q,X = .int k p∧Y = .int k q∧E6 .rem X Y v:=by
 unfold Q9 at hg ⊢
 obtain ⟨k,a,b,e1,H1⟩:=Cl hg
 rw [e1] at hg ⊢
 obtain ⟨j,d,rfl,e2⟩:=Cn hg
 rw [e2] at hg ⊢
 obtain ⟨hk,e3⟩:=Ap hg
 rw [e3] at hg ⊢
 obtain rfl:=Bi.1 hk
 obtain ⟨hj,e4⟩:=Ap hg
 rw [e4] at hg ⊢
 obtain rfl:=Bi.1 hj
 obtain ⟨h1,e5⟩:=Ap hg
 rw [e5] at hg ⊢
 obtain ⟨h2,e6⟩:=Ap hg
 rw [e6] at hg ⊢
 have h1:=Ar.1 h1
 have h2:d+1≤9223372036854775808:=Ar.1 h2
 have hd:d<Hk .i64:=by simp only [Hk]; omega
 have hY:∀ (ρ:Env) (φ:B9) Y,AL ρ φ (.int .i64 d) Y->Y = .int .i64 (C3 .i64 d):=fun ρ φ Y h=>by
  have h:d<Mk .i64∧Y = .int .i64 (C3 .i64 d):=by simpa only [AL] using h
  exact h.2
 cases hb:Nat.ble (Nat.succ b) 9223372036854775808 with
 | true =>
  have hb:b+1≤9223372036854775808:=Ar.1 hb
  refine ⟨.oth (.iv .i64 0 (d - 1)),by rw [AZ,Ai]; rfl,fun ρ φ X Y hX hY'=>?_⟩
  obtain ⟨r,r1,r2,r3,rfl⟩:=H1 ρ φ X hX
  obtain rfl:=hY ρ φ Y hY'
  have hr:r<Hk .i64:=by simp only [Hk]; omega
  exact ⟨.i64,_,_,rfl,rfl,(RW hr hd h1).iv (Nat.zero_le _) (by have:=Nat.mod_lt r (show d > 0 by omega); omega)⟩
 | false =>
  refine ⟨_,rfl,fun ρ φ X Y hX hY'=>?_⟩
  obtain ⟨r,r1,r2,r3,rfl⟩:=H1 ρ φ X hX
  obtain rfl:=hY ρ φ Y hY'
  have hw : -9223372036854775808≤C3 .i64 r∧C3 .i64 r<9223372036854775808:=by
   have r3:r<18446744073709551616:=r3
   by_cases h:r<Hk .i64
   ·rw [AI h]; have h:r<9223372036854775808:=h; omega
   ·rw [Dr (by omega)]; have h:¬ r<9223372036854775808:=h; simp only [Mk]; omega
  exact ⟨.i64,_,_,rfl,rfl,U6 hw.1 hw.2 h1 hd⟩
theorem L9 {op:BinOp} {x y:V} {κ:V->R} (hg:(Fk op x y κ).good):∃ v,Fk op x y κ=κ v ∧ ∀ (ρ:Env) (φ:B9) X Y,AL ρ φ x X->AL ρ φ y Y →
  ∃ k p q,X = .int k p∧Y = .int k q∧E6 op X Y v:=by
 by_cases h1:op = .add
 ·subst h1
  have hg:(Qe x y κ).good:=hg
  show ∃ v,Qe x y κ=κ v∧_
  unfold Qe at hg ⊢
  obtain ⟨k,a,b,e1,H1⟩:=Cl hg
  rw [e1] at hg ⊢
  obtain ⟨j,c,d,e2,H2⟩:=Cl hg
  rw [e2] at hg ⊢
  obtain ⟨hk,e3⟩:=Ap hg
  rw [e3] at hg ⊢
  obtain rfl:=Bi.1 hk
  rw [Ai,Ai] at hg ⊢
  obtain ⟨hh,e4⟩:=Ap hg
  rw [e4]
  have hh:b+d+1≤Hk k:=Ar.1 hh
  refine ⟨_,rfl,fun ρ φ X Y hX hY=>?_⟩
  obtain ⟨r,r1,r2,r3,rfl⟩:=H1 ρ φ X hX
  obtain ⟨s,s1,s2,s3,rfl⟩:=H2 ρ φ Y hY
  exact ⟨k,_,_,rfl,rfl,(UL r3 s3 (by omega)).iv (show a+c≤r+s by omega) (show r+s≤b+d by omega)⟩
 ·by_cases h2:op = .sub
  ·subst h2
   have hg:(Qk x y κ).good:=hg
   show ∃ v,Qk x y κ=κ v∧_
   unfold Qk at hg ⊢
   obtain ⟨k,a,b,e1,H1⟩:=Cl hg
   rw [e1] at hg ⊢
   obtain ⟨j,c,d,e2,H2⟩:=Cl hg
   rw [e2] at hg ⊢
   obtain ⟨hk,e3⟩:=Ap hg
   rw [e3] at hg ⊢
   obtain rfl:=Bi.1 hk
   obtain ⟨q1,e4⟩:=Ap hg
   rw [e4] at hg ⊢
   obtain ⟨q2,e5⟩:=Ap hg
   rw [e5,Ai,Ai]
   have q1:d≤a:=Ar.1 q1
   refine ⟨_,rfl,fun ρ φ X Y hX hY=>?_⟩
   obtain ⟨r,r1,r2,r3,rfl⟩:=H1 ρ φ X hX
   obtain ⟨s,s1,s2,s3,rfl⟩:=H2 ρ φ Y hY
   exact ⟨k,_,_,rfl,rfl,(UU r3 s3 (by omega)).iv (show a - d≤r - s by omega) (show r - s≤b - c by omega)⟩
  ·by_cases h3:op = .rem
   ·subst h3; exact Pa hg
   have e:Fk op x y κ=G5 op x y κ:=by cases op <;> first | rfl | exact absurd rfl h1 | exact absurd rfl h2 | exact absurd rfl h3
   rw [e] at hg ⊢
   exact QD hg
theorem O7 {a b c d:Nat} {yes no:R} (hg:(Vu a b c d yes no).good):(Vu a b c d yes no=yes∧b<c)∨(Vu a b c d yes no=no∧d≤a):=by
 unfold Vu at hg ⊢
 cases h:Nat.ble (Nat.succ b) c with
 | true=>exact .inl ⟨rfl,Ar.1 h⟩
 | false =>
  rw [h] at hg
  obtain ⟨h2,e⟩:=Ap (show R.good (br (Nat.ble d a) no (.fail "")) from hg)
  exact .inr ⟨e,Ar.1 h2⟩
theorem Sq {x y:V} {κ:V->R} (hg:(Vw x y κ).good):∃ u,Vw x y κ=κ u ∧ ∀ (ρ:Env) (φ:B9) X Y,AL ρ φ x X->AL ρ φ y Y →
  ∃ k p q,X = .int k p∧Y = .int k q∧AL ρ φ u (.int k (if q > p then q else p)):=by
 unfold Vw at hg ⊢
 obtain ⟨k,a,b,e1,H1⟩:=Cl hg
 rw [e1] at hg ⊢
 obtain ⟨j,c,d,e2,H2⟩:=Cl hg
 rw [e2] at hg ⊢
 obtain ⟨hk,e3⟩:=Ap hg
 rw [e3] at hg ⊢
 obtain rfl:=Bi.1 hk
 obtain ⟨o1,e4⟩:=Ap hg
 rw [e4] at hg ⊢
 obtain ⟨o2,e5⟩:=Ap hg
 rw [e5] at hg ⊢
 rcases O7 hg with ⟨e,h⟩ | ⟨e,h⟩
 ·refine ⟨y,e,fun ρ φ X Y hX hY=>?_⟩
  obtain ⟨r,r1,r2,r3,rfl⟩:=H1 ρ φ X hX
  obtain ⟨s,s1,s2,s3,rfl⟩:=H2 ρ φ Y hY
  have k1:=Ce (M:=Mk k) o1 r1 r2
  have k2:=Ce (M:=Mk k) o2 s1 s2
  have:=(DY r3 s3).1
  exact ⟨k,_,_,rfl,rfl,by rw [if_pos (by omega)]; exact hY⟩
 ·refine ⟨x,e,fun ρ φ X Y hX hY=>?_⟩
  obtain ⟨r,r1,r2,r3,rfl⟩:=H1 ρ φ X hX
  obtain ⟨s,s1,s2,s3,rfl⟩:=H2 ρ φ Y hY
  have k1:=Ce (M:=Mk k) o1 r1 r2
  have k2:=Ce (M:=Mk k) o2 s1 s2
  have:=(DY r3 s3).1
  exact ⟨k,_,_,rfl,rfl,by rw [if_neg (by omega)]; exact hX⟩
theorem ST {x y:V} {κ:V->R} (hg:(Vx x y κ).good):∃ u,Vx x y κ=κ u ∧ ∀ (ρ:Env) (φ:B9) X Y,AL ρ φ x X->AL ρ φ y Y →
  ∃ k p q,X = .int k p∧Y = .int k q∧AL ρ φ u (.int k (if q<p then q else p)):=by
 unfold Vx at hg ⊢
 obtain ⟨k,a,b,e1,H1⟩:=Cl hg
 rw [e1] at hg ⊢
 obtain ⟨j,c,d,e2,H2⟩:=Cl hg
 rw [e2] at hg ⊢
 obtain ⟨hk,e3⟩:=Ap hg
 rw [e3] at hg ⊢
 obtain rfl:=Bi.1 hk
 obtain ⟨o1,e4⟩:=Ap hg
 rw [e4] at hg ⊢
 obtain ⟨o2,e5⟩:=Ap hg
 rw [e5] at hg ⊢
 rcases O7 hg with ⟨e,h⟩ | ⟨e,h⟩
 ·refine ⟨y,e,fun ρ φ X Y hX hY=>?_⟩
  obtain ⟨r,r1,r2,r3,rfl⟩:=H1 ρ φ X hX
  obtain ⟨s,s1,s2,s3,rfl⟩:=H2 ρ φ Y hY
  have k1:=Ce (M:=Mk k) o1 r1 r2
  have k2:=Ce (M:=Mk k) o2 s1 s2
  have:=(DY s3 r3).1
  exact ⟨k,_,_,rfl,rfl,by rw [if_pos (by omega)]; exact hY⟩
 ·refine ⟨x,e,fun ρ φ X Y hX hY=>?_⟩
  obtain ⟨r,r1,r2,r3,rfl⟩:=H1 ρ φ X hX
  obtain ⟨s,s1,s2,s3,rfl⟩:=H2 ρ φ Y hY
  have k1:=Ce (M:=Mk k) o1 r1 r2
  have k2:=Ce (M:=Mk k) o2 s1 s2
  have:=(DY s3 r3).1
  exact ⟨k,_,_,rfl,rfl,by rw [if_neg (by omega)]; exact hX⟩
theorem JZ {op:BinOp} {x y:V} {κ:V->R} (hg:(Qx op x y κ (Fk op x y κ)).good):∃ v,Qx op x y κ (Fk op x y κ)=κ v ∧ ∀ (ρ:Env) (φ:B9) X Y,AL ρ φ x X->AL ρ φ y Y →
  ∃ k p q,X = .int k p∧Y = .int k q∧E6 op X Y v:=by
 by_cases hop:op = .rem
 ·subst hop
  rcases Ra x (fun m j=>G3 y fun k b=>br (Bn k .i64) (br (Nat.ble 1 b) (br (Nat.ble (Nat.succ b) 9223372036854775808) (br (Nat.beq m (Nat.add 18446744073709551616 b)) (κ (.int .i64 j)) (br (Nat.beq m b) (br (Nat.beq j 0) (κ (.int .i64 0)) (κ (.oth (.iv .i64 1 18446744073709551615)))) (.fail ""))) (.fail "")) (.fail "")) (.fail "")) (Fk .rem x y κ) with ⟨m,j,rfl,e0⟩ | e0
  ·have e0:Qx .rem (.oth (.rs m j)) y κ (Fk .rem (.oth (.rs m j)) y κ)=_:=e0
   rw [e0] at hg ⊢
   obtain ⟨k,b,rfl,e1⟩:=Cn hg
   rw [e1] at hg ⊢
   obtain ⟨hk,e2⟩:=Ap hg
   rw [e2] at hg ⊢
   obtain rfl:=Bi.1 hk
   obtain ⟨hb1,e3⟩:=Ap hg
   rw [e3] at hg ⊢
   obtain ⟨hb2,e4⟩:=Ap hg
   rw [e4] at hg ⊢
   cases hm:Nat.beq m (Nat.add 18446744073709551616 b) with
   | false =>
    rw [hm] at hg
    have hg:(br (Nat.beq m b) (br (Nat.beq j 0) (κ (.int .i64 0)) (κ (.oth (.iv .i64 1 18446744073709551615)))) (.fail "")).good:=hg
    obtain ⟨hmb,e5⟩:=Ap hg
    have hb1:=Ar.1 hb1
    have hb2:b+1≤9223372036854775808:=Ar.1 hb2
    have hmb:m=b:=Nat.eq_of_beq_eq_true hmb
    have key:∀ (ρ:Env) (φ:B9) X Y,AL ρ φ (.oth (.rs m j)) X->AL ρ φ (.int .i64 b) Y->∃ z:Int,X = .int .i64 z∧Y = .int .i64 (b:Int) ∧ -9223372036854775808≤z∧z<9223372036854775808∧z.natAbs % b=j:=fun ρ φ X Y hX hY=>by
     simp only [AL] at hX
     obtain ⟨z,rfl,z1,z2,z3,_⟩:=hX
     have hY:(b<Mk .i64∧Y = .int .i64 (C3 .i64 b)):=by simpa only [AL] using hY
     obtain ⟨_,rfl⟩:=hY
     refine ⟨z,rfl,by rw [AI (by simp only [Hk]; omega)],z1,z2,?_⟩
     rcases z3 with ⟨_,z3⟩ | ⟨z3,_⟩
     ·rw [hmb,Nat.mod_eq_of_lt (show b<18446744073709551616 by omega)] at z3; exact z3
     ·omega
    cases hj:Nat.beq j 0 with
    | true =>
     obtain rfl:=Nat.eq_of_beq_eq_true hj
     refine ⟨_,e5,fun ρ φ X Y hX hY=>?_⟩
     obtain ⟨z,rfl,rfl,z1,z2,z3⟩:=key ρ φ X Y hX hY
     refine ⟨.i64,_,_,rfl,rfl,.int .i64 (z.tmod b),fun P t w=>by
      rw [binOp_rem]
      simp only [Op.intDiv]
      rw [if_neg (by omega)]
      simp only [Sem.run_pure],fun ρ φ=>?_⟩
     have h0:z.tmod b=0:=by
      have:=Int.natAbs_tmod z b
      rw [Int.natAbs_natCast,z3] at this
      omega
     rw [h0]
     simp only [AL]
     exact ⟨by simp only [Mk]; omega,rfl⟩
    | false =>
     rw [hj] at e5
     refine ⟨_,e5,fun ρ φ X Y hX hY=>?_⟩
     obtain ⟨z,rfl,rfl,z1,z2,z3⟩:=key ρ φ X Y hX hY
     refine ⟨.i64,_,_,rfl,rfl,.int .i64 (z.tmod b),fun P t w=>by
      rw [binOp_rem]
      simp only [Op.intDiv]
      rw [if_neg (by omega)]
      simp only [Sem.run_pure],fun ρ φ=>?_⟩
     have hj0:j≠0:=fun h=>by subst h; cases hj
     have h0:=Int.natAbs_tmod z b
     rw [Int.natAbs_natCast,z3] at h0
     have hjb:j<b:=by rw [←z3]; exact Nat.mod_lt _ (by omega)
     generalize z.tmod b=y at h0
     simp only [AL]
     by_cases hy:0≤y
     ·refine ⟨y.toNat,by omega,by omega,by simp only [Mk]; omega,?_⟩
      rw [AI (by simp only [Hk]; omega)]; congr 1; omega
     ·refine ⟨(y+18446744073709551616).toNat,by omega,by omega,by simp only [Mk]; omega,?_⟩
      rw [Dr (by simp only [Hk]; omega)]; congr 1; simp only [Mk]; omega
   | true =>
   rw [hm] at hg
   refine ⟨_,rfl,fun ρ φ X Y hX hY=>?_⟩
   have hb1:=Ar.1 hb1
   have hb2:b+1≤9223372036854775808:=Ar.1 hb2
   have hm:m=18446744073709551616+b:=Nat.eq_of_beq_eq_true hm
   simp only [AL] at hX
   obtain ⟨z,rfl,z1,z2,z3,z4⟩:=hX
   have hY:(b<Mk .i64∧Y = .int .i64 (C3 .i64 b)):=by simpa only [AL] using hY
   obtain ⟨_,rfl⟩:=hY
   have hz:=z4 (by omega) (by omega)
   have z3:z.natAbs % (m % 18446744073709551616)=j:=by
    rcases z3 with ⟨_,z3⟩ | ⟨z3,_⟩
    ·exact z3
    ·omega
   have e6:m % 18446744073709551616=b:=by omega
   rw [e6] at z3
   obtain ⟨r,rfl⟩:∃ r:Nat,z=r:=⟨z.toNat,by omega⟩
   have hr:r<Hk .i64:=by simp only [Hk]; omega
   have h:=RW (b:=b) hr (by simp only [Hk]; omega) hb1
   rw [AI hr] at h
   have e7:r % b=j:=by rw [←z3,Int.natAbs_natCast]
   rw [e7] at h
   exact ⟨.i64,_,_,rfl,rfl,h⟩
  ·have e0:Qx .rem x y κ (Fk .rem x y κ)=Fk .rem x y κ:=e0
   rw [e0] at hg ⊢
   exact L9 hg
 ·have e0:Qx op x y κ (Fk op x y κ)=Fk op x y κ:=by cases op <;> first | rfl | exact absurd rfl hop
  rw [e0] at hg ⊢
  exact L9 hg
theorem Mj (v:V) (κ:IntKind->Nat->R) (e:R):(∃ k i,v = .oth (.sy k i)∧WQ v κ e=κ k i)∨WQ v κ e=e:=by
 cases v with
 | oth o =>
  rcases Pg o κ e with ⟨k,i,rfl,h⟩ | h
  ·exact .inl ⟨k,i,rfl,h⟩
  ·exact .inr h
 | _=>exact .inr rfl
theorem HV (x y:V) (a e:R):(∃ k i,x = .oth (.sy k i)∧y = .oth (.sy k i)∧JU x y a e=a)∨JU x y a e=e:=by
 unfold JU
 rcases Mj x (fun k i=>WQ y (fun j i'=>br (Bn k j) (br (Nat.beq i i') a e) e) e) e with ⟨k,i,rfl,h⟩ | h
 ·rw [h]
  rcases Mj y (fun j i'=>br (Bn k j) (br (Nat.beq i i') a e) e) e with ⟨j,i',rfl,h'⟩ | h'
  ·rw [h']
   cases hk:Bn k j with
   | false=>exact .inr rfl
   | true =>
    cases hi:Nat.beq i i' with
    | false=>exact .inr rfl
    | true =>
     obtain rfl:=Bi.1 hk
     obtain rfl:=Nat.eq_of_beq_eq_true hi
     exact .inl ⟨k,i,rfl,rfl,rfl⟩
  ·rw [h']; exact .inr rfl
 ·rw [h]; exact .inr rfl
theorem RF {op:BinOp} {x y:V} {κ:V->R} (hg:(Jv op x y κ).good):∃ v,Jv op x y κ=κ v ∧ ∀ (ρ:Env) (φ:B9) X Y,AL ρ φ x X->AL ρ φ y Y →
  ∃ k p q,X = .int k p∧Y = .int k q∧E6 op X Y v:=by
 unfold Jv at hg ⊢
 by_cases h1:op = .eql
 ·subst h1
  rcases HV x y (κ (.bool true)) (Qx .eql x y κ (Fk .eql x y κ)) with ⟨k,i,rfl,rfl,e⟩ | e
  ·refine ⟨_,e,fun ρ φ X Y hX hY=>?_⟩
   simp only [AL] at hX hY
   obtain ⟨h1,r,hr,h2⟩:=hX
   obtain rfl:Y=X:=hY.1.trans h1.symm
   subst h2
   exact ⟨k,_,_,rfl,rfl,.bool true,fun P t w=>by rw [binOp_eql,Sem.run_pure,beq_self_eq_true],fun ρ φ=>BF _ ρ φ⟩
  ·have e:Xq .eql x y κ (Qx .eql x y κ (Fk .eql x y κ))=Qx .eql x y κ (Fk .eql x y κ):=e
   rw [e] at hg ⊢
   exact JZ hg
 by_cases h2:op = .neq
 ·subst h2
  rcases HV x y (κ (.bool false)) (Qx .neq x y κ (Fk .neq x y κ)) with ⟨k,i,rfl,rfl,e⟩ | e
  ·refine ⟨_,e,fun ρ φ X Y hX hY=>?_⟩
   simp only [AL] at hX hY
   obtain ⟨h1,r,hr,h2⟩:=hX
   obtain rfl:Y=X:=hY.1.trans h1.symm
   subst h2
   exact ⟨k,_,_,rfl,rfl,.bool false,fun P t w=>by rw [binOp_neq,Sem.run_pure,bne_self_eq_false],fun ρ φ=>BF _ ρ φ⟩
  ·have e:Xq .neq x y κ (Qx .neq x y κ (Fk .neq x y κ))=Qx .neq x y κ (Fk .neq x y κ):=e
   rw [e] at hg ⊢
   exact JZ hg
 have e:Xq op x y κ (Qx op x y κ (Fk op x y κ))=Qx op x y κ (Fk op x y κ):=by cases op <;> first | rfl | exact absurd rfl h1 | exact absurd rfl h2
 rw [e] at hg ⊢
 exact JZ hg
theorem CA {op:BinOp} {ty yt:TypeId} {x y:Operand} {x' y':Opd} (ho:o.op = .binOp op ty x y yt) (hx:AX N x=some x') (hy:AX N y=some y') :
  Bl P ρ B N o (JP op x' y' cf t h n) t h n:=by
 intro κ hg
 have e:JP op x' y' cf t h n κ=MK op (ev x' t) (ev y' t) fun r=>κ r h n:=by simp only [JP,AR]
 rw [e] at hg
 have key:∀ φ a,TR ρ N φ t a->∃ X Y,a.eval x=X∧a.eval y=Y∧AL ρ φ (ev x' t) X∧AL ρ φ (ev y' t) Y:=fun φ a ht=>⟨_,_,rfl,rfl,An hx ht,An hy ht⟩
 rcases R6 hg with ⟨k,a,j,b,hxv,hyv,e'⟩ | ⟨n',c,m,d,hxv,hyv,e'⟩ | e' | ⟨l0,l1,n',c,m,d,hxv,hyv,e'⟩
 ·by_cases hab:a<Mk k∧b<Mk j
  ·rw [e'] at hg
   obtain ⟨v,e2,r,hr,hv⟩:=GU op k a j b _ hab.1 hab.2 hg
   refine ⟨v,e.trans (e'.trans e2),fun φ ac w ht hg=>⟨r,?_,hv ρ φ⟩⟩
   obtain ⟨X,Y,hX,hY,rX,rY⟩:=key φ ac ht
   rw [hxv] at rX; rw [hyv] at rY
   obtain ⟨_,rfl⟩:=Cb rX
   obtain ⟨_,rfl⟩:=Cb rY
   refine HW ho ?_ ?_
   ·rw [hX,hY,eqGuard_at_int]
   ·rw [hX,hY]; exact hr P ty w
  ·-- no world has such a residue
   rw [e'] at hg
   have hv:∃ v,MB op k a j b (fun r=>κ r h n)=κ v h n:=by
    have gk:∀ (f:V->R) (c:Nat->V) (m:Nat),Ak m (fun r=>f (c r))=f (c m):=fun f c m=>Ai _ _
    cases op <;> (simp only [MB,Tx,N3,TQ,R0,QS,RR,Wr,Sm,NC,RN,Rq,Xz,Xr,XA,Xw,Xt,XC,Om,Ai,C5] at hg ⊢)
    all_goals
     repeat' first
      | exact ⟨_,rfl⟩
      | (obtain ⟨_,ee⟩:=Ap hg; rw [ee] at hg ⊢)
      | exact Vq (f:=fun v=>κ v h n)
   obtain ⟨v,hv⟩:=hv
   refine ⟨v,e.trans (e'.trans hv),fun φ ac w ht hg=>?_⟩
   obtain ⟨X,Y,hX,hY,rX,rY⟩:=key φ ac ht
   rw [hxv] at rX; rw [hyv] at rY
   exact absurd ⟨(Cb rX).1,(Cb rY).1⟩ hab
 ·by_cases hw:∃ s u:ByteArray,n'=s.size∧c=B5 s.data.toList∧m=u.size∧d=B5 u.data.toList
  ·obtain ⟨s,u,rfl,rfl,rfl,rfl⟩:=hw
   rw [e'] at hg
   obtain ⟨v,e2,r,hr,hv⟩:=R1 op s u _ hg
   refine ⟨v,e.trans (e'.trans e2),fun φ ac w ht hg=>⟨r,?_,hv ρ φ⟩⟩
   obtain ⟨X,Y,hX,hY,rX,rY⟩:=key φ ac ht
   rw [hxv] at rX; rw [hyv] at rY
   obtain ⟨s',rfl,h1,h2⟩:=Ci rX
   obtain ⟨u',rfl,h3,h4⟩:=Ci rY
   have es:s'=s:=by
    have:=JA (a:=s'.data.toList) (b:=s.data.toList) (by rw [BH,BH,h1]) h2
    cases s'; cases s; simp at this; rw [this]
   have eu:u'=u:=by
    have:=JA (a:=u'.data.toList) (b:=u.data.toList) (by rw [BH,BH,h3]) h4
    cases u'; cases u; simp at this; rw [this]
   subst es eu
   refine HW ho ?_ ?_
   ·rw [hX,hY,eqGuard_at_string]
   ·rw [hX,hY]; exact hr P ty w
  ·rw [e'] at hg
   have hv:∃ v,Jm op n' c m d (fun r=>κ r h n)=κ v h n:=by
    cases op <;> first
     | exact hg.elim
     | (simp only [Jm,Vg,UK,Yc,Yu,YR,Ai,C5] at hg ⊢)
    ·obtain ⟨_,ee⟩:=Ap hg; rw [ee]; exact ⟨_,rfl⟩
    ·exact ⟨_,rfl⟩
    ·cases Jl n' c m d <;> exact ⟨_,rfl⟩
    ·exact ⟨_,rfl⟩
    ·cases Pr n' c m d <;> exact ⟨_,rfl⟩
   obtain ⟨v,hv⟩:=hv
   refine ⟨v,e.trans (e'.trans hv),fun φ ac w ht hg=>?_⟩
   obtain ⟨X,Y,hX,hY,rX,rY⟩:=key φ ac ht
   rw [hxv] at rX; rw [hyv] at rY
   obtain ⟨s',rfl,h1,h2⟩:=Ci rX
   obtain ⟨u',rfl,h3,h4⟩:=Ci rY
   exact absurd ⟨s',u',h1.symm,h2.symm,h3.symm,h4.symm⟩ hw
 ·rw [e'] at hg
  obtain ⟨v,e2,H⟩:=RF hg
  refine ⟨v,e.trans (e'.trans e2),fun φ ac w ht hg=>?_⟩
  obtain ⟨X,Y,hX,hY,rX,rY⟩:=key φ ac ht
  obtain ⟨k,p,q,rfl,rfl,r,hr,hv⟩:=H ρ φ X Y rX rY
  refine ⟨r,HW ho ?_ ?_,hv ρ φ⟩
  ·rw [hX,hY,eqGuard_at_int]
  ·rw [hX,hY]; exact hr P ty w
 ·rw [e'] at hg
  unfold Q7 at hg e'
  obtain ⟨hne,e2⟩:=Ap hg
  rw [e2] at hg
  have ne:∀ φ ac,TR ρ N φ t ac->∃ s u:ByteArray,ac.eval x = .string s∧ac.eval y = .string u∧(s.toList == u.toList)=false:=fun φ ac ht=>by
   obtain ⟨X,Y,hX,hY,rX,rY⟩:=key φ ac ht
   rw [hxv] at rX; rw [hyv] at rY
   simp only [AL] at rX
   obtain ⟨s,rfl,k1,k2,k3⟩:=rX
   obtain ⟨u,rfl,k4,k5⟩:=Ci rY
   refine ⟨s,u,hX,hY,?_⟩
   rw [Bool.eq_false_iff]
   intro hc
   have hc:=eq_of_beq hc
   have hsu:s=u:=by
    rw [ByteArray.toList_eq,ByteArray.toList_eq] at hc
    cases s; cases u; simp at hc; rw [hc]
   subst hsu
   rw [k4] at k1 k2 k3
   rw [k5] at k3
   rw [Ar.2 k1,Ar.2 k2] at hne
   simp only [AZ] at hne
   cases h1:Nat.beq m n' with
   | false=>rw [h1] at hne; cases hne
   | true =>
    rw [h1,AZ] at hne
    exact k3 ⟨Nat.eq_of_beq_eq_true h1,Nat.eq_of_beq_eq_true hne⟩
  cases op with
  | eql =>
   refine ⟨.bool false,e.trans (e'.trans e2),fun φ ac w ht hg=>⟨.bool false,?_,BF _ ρ φ⟩⟩
   obtain ⟨s,u,hX,hY,hn⟩:=ne φ ac ht
   refine HW ho (by rw [hX,hY,eqGuard_at_string]) ?_
   rw [hX,hY,show (Go.binOp .eql ty (.string s) (.string u)).run P w = .ok (.bool (s.toList == u.toList)) w from rfl,hn]
  | neq =>
   refine ⟨.bool true,e.trans (e'.trans e2),fun φ ac w ht hg=>⟨.bool true,?_,BF _ ρ φ⟩⟩
   obtain ⟨s,u,hX,hY,hn⟩:=ne φ ac ht
   refine HW ho (by rw [hX,hY,eqGuard_at_string]) ?_
   rw [hX,hY,show (Go.binOp .neq ty (.string s) (.string u)).run P w = .ok (.bool !(s.toList == u.toList)) w from rfl,hn]; rfl
  | _=>exact hg.elim
end
end Go.Ev

namespace Go.Ev
set_option linter.unusedVariables false
section
variable {P:Program} {ρ:Env} {B N:Nat} {o:Oper} {cf:CF} {t:Regs} {h:Heap} {n:K4}
theorem I3 {ty:TypeId} {x y:Operand} {X Y:Value} {op:BinOp} (hg:P.eqGuardType P.depth ty=false) (hX:X ≠ .nilIface) (w:World):(eqGuard op ty x y X Y).run P w = .ok () w:=by
 unfold eqGuard
 cases op <;> simp <;> (split <;> first | (exact absurd rfl hX) | simp [hg] | simp)
theorem KZ {ty:TypeId} {X Y:Value} {w:World} {r:Bool} (hr:(Op.equal ty X Y).run P w = .ok r w) (hX:(∃ b,X = .bool b)∨(∃ a,X = .agg a)∨(∃ a,X = .pointer a)∨(∃ a b c,X = .slice a b c)∨(∃ a,X = .map a)∨(∃ a b c,X = .func a b c)∨X = .nilFunc) :
  (Go.binOp .eql ty X Y).run P w = .ok (.bool r) w∧(Go.binOp .neq ty X Y).run P w = .ok (.bool !r) w:=by
 rcases hX with ⟨b,rfl⟩ | ⟨a,rfl⟩ | ⟨a,rfl⟩ | ⟨a,b,c,rfl⟩ | ⟨a,rfl⟩ | ⟨a,b,c,rfl⟩ | rfl <;> (constructor <;> (unfold Go.binOp; simp [hr]))
theorem Rc {pl:Plan} {ty:TypeId} (hp:Kj P ty=some pl) {x y:V} {κ:Bool->R} (hg:(KN pl x y κ).good) {φ:B9} {X:Value} (hX:AL ρ φ x X) :
  (∃ b,X = .bool b)∨(∃ a,X = .agg a)∨(∃ a,X = .pointer a)∨(∃ a b c,X = .slice a b c)∨(∃ a,X = .map a)∨(∃ a b c,X = .func a b c)∨X = .nilFunc:=by
 have ref:∀ u,u ≠ .iface->(Ji u x y κ).good->(∃ b,X = .bool b)∨(∃ a,X = .agg a)∨(∃ a,X = .pointer a)∨(∃ a b c,X = .slice a b c)∨(∃ a,X = .map a)∨(∃ a b c,X = .func a b c)∨X = .nilFunc:=fun u hu hg=>by
  rcases FU (ρ:=ρ) (φ:=φ) (show R.good (G1 u x _ _) from hg) with ⟨rfl,_⟩ | ⟨_,hx⟩
  ·rw [BS hX]
   cases u <;> simp [C8] at hu ⊢
  ·have:=hx X hX
   cases u with
   | ptr=>obtain ⟨a,rfl⟩:=this; exact .inr (.inr (.inl ⟨_,rfl⟩))
   | sl=>obtain ⟨a,b,c,rfl⟩:=this; exact .inr (.inr (.inr (.inl ⟨_,_,_,rfl⟩)))
   | map=>obtain ⟨a,rfl⟩:=this; exact .inr (.inr (.inr (.inr (.inl ⟨_,rfl⟩))))
   | fn=>obtain ⟨a,b,c,rfl⟩:=this; exact .inr (.inr (.inr (.inr (.inr (.inl ⟨_,_,_,rfl⟩)))))
   | iface=>exact absurd rfl hu
 unfold Kj at hp
 split at hp
 ·cases hp
  obtain ⟨b,rfl,_⟩:=EA (show R.good (OA x _) from hg)
  exact .inl ⟨b,Dv hX⟩
 ·split at hp
  ·cases hp
  ·cases ho:Gm P _ with
   | none=>rw [ho] at hp; cases hp
   | some offs =>
    rw [ho] at hp; cases hp
    obtain ⟨a,rfl,_⟩:=Cx (show R.good (asAgg x _) from hg)
    obtain ⟨xs,rfl,_⟩:=DV hX
    exact .inr (.inl ⟨_,rfl⟩)
 ·split at hp
  ·cases hp; exact ref .ptr (by simp) hg
  ·cases hp
 ·cases hp; exact ref .sl (by simp) hg
 ·cases hp; exact ref .map (by simp) hg
 ·cases hp; exact ref .fn (by simp) hg
 ·cases hp
theorem Ia {neg:Bool} {pl:Plan} {ty yt:TypeId} {x y:Operand} {x' y':Opd} (ho:o.op = .binOp (if neg then .neq else .eql) ty x y yt) (hx:AX N x=some x') (hy:AX N y=some y')
  (hp:Kj P ty=some pl) (hgd:P.eqGuardType P.depth ty=false):Bl P ρ B N o (Rr neg pl x' y' cf t h n) t h n:=by
 intro κ hg
 have e:Rr neg pl x' y' cf t h n κ=KN pl (ev x' t) (ev y' t) fun r=>br neg (br r (κ (.bool false) h n) (κ (.bool true) h n)) (κ (.bool r) h n):=by simp only [Rr,AR]
 rw [e] at hg
 obtain ⟨r,g1,_⟩:=IU (ρ:=ρ) (φ:=fun _=>none) hp hg
 refine ⟨.bool (if neg then !r else r),e.trans ((g1 _).trans (by cases neg <;> cases r <;> rfl)),fun φ a w ht hG=>⟨.bool (if neg then !r else r),?_,BF _ ρ φ⟩⟩
 obtain ⟨r',g2,g3⟩:=IU (ρ:=ρ) (φ:=φ) hp hg
 have hrr:r'=r:=by
  have e1:=g1 (fun q=>R.rv (.bool q) AF ⟨.d0,.d0,.d0,.d0⟩)
  rw [g2] at e1
  simpa using e1
 subst hrr
 have hX:=An hx ht
 have hY:=An hy ht
 have hsh:=Rc hp hg hX
 have hrun:=KZ (g3 _ _ w hX hY) hsh
 have hne:a.eval x ≠ .nilIface:=by
  rcases hsh with ⟨b,e⟩ | ⟨b,e⟩ | ⟨b,e⟩ | ⟨b,c,d,e⟩ | ⟨b,e⟩ | ⟨b,c,d,e⟩ | e <;> rw [e] <;> simp
 cases neg
 ·simp only [Bool.false_eq_true,if_false] at ho ⊢
  simp only [execOp,ho,Sem.run_bind,I3 hgd hne,Result.andThen_ok,hrun.1,Sem.run_pure]
 ·simp only [if_true] at ho ⊢
  simp only [execOp,ho,Sem.run_bind,I3 hgd hne,Result.andThen_ok,hrun.2,Sem.run_pure]
theorem Mm {ty:TypeId} {x:Operand} {x':Opd} (ho:o.op = .unOp .not ty x) (hx:AX N x=some x'):Bl P ρ B N o (Lw x' cf t h n) t h n:=by
 intro κ hg
 have e:Lw x' cf t h n κ=OA (ev x' t) fun q=>br q (κ (.bool false) h n) (κ (.bool true) h n):=by simp only [Lw,AR]
 rw [e] at hg
 obtain ⟨b,hb,e'⟩:=EA hg
 refine ⟨.bool !b,e.trans (e'.trans (by cases b <;> rfl)),fun φ a w ht hg=>⟨.bool !b,?_,BF _ ρ φ⟩⟩
 have h1:=An hx ht
 rw [hb] at h1
 simp [execOp,ho,Dv h1,Op.unary]
theorem Lt {ty:TypeId} {x:Operand} {x':Opd} (ho:o.op = .unOp .neg ty x) (hx:AX N x=some x'):Bl P ρ B N o (Mb x' cf t h n) t h n:=by
 intro κ hg
 have e:Mb x' cf t h n κ=G3 (ev x' t) fun k r=>N3 k 0 k r fun v=>κ v h n:=by simp only [Mb,AR]
 rw [e] at hg
 obtain ⟨k,r,hb,e'⟩:=Cn hg
 have hk:Bn k k=true:=Bi.2 rfl
 have e2:(N3 k 0 k r fun v=>κ v h n)=κ (.int k ((0+(Mk k - r)) % Mk k)) h n:=by
  unfold N3; rw [hk,AZ,Ai]; rfl
 refine ⟨.int k ((0+(Mk k - r)) % Mk k),e.trans (e'.trans e2),fun φ a w ht hg=>⟨.int k (C3 k ((0+(Mk k - r)) % Mk k)),?_,Ee k _ (Nat.mod_lt _ (EC k)) ρ φ⟩⟩
 have h1:=An hx ht
 rw [hb] at h1
 obtain ⟨hr,h1⟩:=Cb h1
 have h0:(0:Int)=C3 k 0:=by rw [AI (by cases k <;> simp [Hk])]; rfl
 simp only [execOp,ho,h1,Op.unary,Op.intArith,Sem.run_bind,Sem.run_pure,Result.andThen_ok]
 rw [h0,NP k 0 r hr]
theorem M3 {ty:TypeId} {x:Operand} {x':Opd} (ho:o.op = .unOp .xor ty x) (hx:AX N x=some x'):Bl P ρ B N o (LO x' cf t h n) t h n:=by
 intro κ hg
 have e:LO x' cf t h n κ=G3 (ev x' t) fun k r=>κ (.int k (Nat.xor (Nat.sub (Mk k) 1) r)) h n:=by simp only [LO,AR,Ai]
 rw [e] at hg
 obtain ⟨k,r,hb,e'⟩:=Cn hg
 by_cases hr:r<Mk k
 ·have hl:Nat.xor (Mk k - 1) r<Mk k:=So k _ _ (by have:=EC k; omega) hr
  refine ⟨_,e.trans e',fun φ a w ht hg=>⟨.int k (C3 k (Nat.xor (Mk k - 1) r)),?_,Ee k _ hl ρ φ⟩⟩
  have h1:=An hx ht
  rw [hb] at h1
  obtain ⟨_,h1⟩:=Cb h1
  have hm:(if k.signed then -1 else k.max:Int)=C3 k (Mk k - 1):=by
   cases k <;> simp [IntKind.signed,IntKind.max,IntKind.bits,C3,Mk,Hk]
  simp only [execOp,ho,h1,Op.unary,Op.intBits,hm,BitVec.toNat_xor,bv _ _ hr,bv k (Mk k - 1) (by have:=EC k; omega),Sem.run_bind,Sem.run_pure,Result.andThen_ok]
  rw [Ez k ((Mk k - 1) ^^^ r) hl]; rfl
 ·refine ⟨_,e.trans e',fun φ a w ht hg=>?_⟩
  have h1:=An hx ht
  rw [hb] at h1
  exact absurd (Cb h1).1 hr
theorem Vk (j k:IntKind) (r:Nat) (hr:r<Mk j) :
  k.wrap (C3 j r)=C3 k (if r<Hk j then r % Mk k else if Mk k≤Mk j then r % Mk k else Mk k - (Mk j - r)):=by
 apply FQ
 by_cases h1:r<Hk j
 ·rw [AI h1,if_pos h1,←Int.natCast_emod]
 ·rw [Dr h1,if_neg h1]
  cases j <;> cases k <;> simp only [Mk,Hk] at * <;> (try simp) <;> omega
theorem Mv {src dst:TypeId} {j k:IntKind} {x:Operand} {x':Opd} (ho:o.op = .convert src dst x) (hx:AX N x=some x') (hs:P.underlying src=some (.int j)) (hd:P.underlying dst=some (.int k)) :
  Bl P ρ B N o (Mw k x' cf t h n) t h n:=by
 intro κ hg
 have e:Mw k x' cf t h n κ=G3 (ev x' t) fun j r=>br (Nat.ble (Nat.succ r) (Hk j)) (κ (.int k (Nat.mod r (Mk k))) h n) (br (Nat.ble (Mk k) (Mk j)) (κ (.int k (Nat.mod r (Mk k))) h n) (κ (.int k (Nat.sub (Mk k) (Nat.sub (Mk j) r))) h n)):=by
  simp only [Mw,AR,Ai]
 rw [e] at hg
 obtain ⟨i,r,hb,e'⟩:=Cn hg
 have e2:br (Nat.ble (Nat.succ r) (Hk i)) (κ (.int k (Nat.mod r (Mk k))) h n) (br (Nat.ble (Mk k) (Mk i)) (κ (.int k (Nat.mod r (Mk k))) h n) (κ (.int k (Nat.sub (Mk k) (Nat.sub (Mk i) r))) h n)) =
   κ (.int k (if r<Hk i then r % Mk k else if Mk k≤Mk i then r % Mk k else Mk k - (Mk i - r))) h n:=by
  by_cases h1:r<Hk i
  ·rw [Ar.2 h1,AZ,if_pos h1]; rfl
  ·rw [Bm (by omega),B2,if_neg h1]
   by_cases h2:Mk k≤Mk i
   ·rw [Ar.2 h2,AZ,if_pos h2]; rfl
   ·rw [Bm (by omega),B2,if_neg h2]; rfl
 refine ⟨_,e.trans (e'.trans e2),fun φ a w ht hg=>?_⟩
 have h1:=An hx ht
 rw [hb] at h1
 obtain ⟨hr,h1⟩:=Cb h1
 refine ⟨_,?_,Ee k _ ?_ ρ φ⟩
 ·simp only [execOp,ho,h1,convert,Sem.run_bind,run_underlying hs,run_underlying hd,Result.andThen_ok,Conv.intToInt,Sem.run_pure]
  rw [Vk i k r hr]
 ·have:=EC k
  split
  ·exact Nat.mod_lt _ this
  ·split
   ·exact Nat.mod_lt _ this
   ·omega
theorem LN {src dst:TypeId} {x:Operand} {x':Opd} (ho:o.op = .convert src dst x) (hx:AX N x=some x') (hs:P.underlying src=some .string) (hd:P.underlying dst=some .string) :
  Bl P ρ B N o (La x' cf t h n) t h n:=by
 intro κ hg
 have e:La x' cf t h n κ=Bh (ev x' t) fun _ _=>κ (ev x' t) h n:=by simp only [La,AR]
 rw [e] at hg
 obtain ⟨m,c,hb,e'⟩:=BV hg
 refine ⟨_,e.trans e',fun φ a w ht hg=>⟨a.eval x,?_,An hx ht⟩⟩
 have h1:=An hx ht
 rw [hb] at h1
 obtain ⟨s,h1,_⟩:=Ci h1
 simp [execOp,ho,h1,convert,run_underlying hs,run_underlying hd]
theorem Ke {f:Nat} {caps:Array Operand} {l:List Opd} (ho:o.op = .makeFunc (.func f) #[] caps) (hl:Bz N caps.toList=some l):Bl P ρ B N o (P7 f l cf t h n) t h n :=
 JY (v:=.fn f (l.map (ev · t))) (fun κ=>by simp only [P7,F6]) fun φ a w ht hg=>⟨.func (.func f) #[] (caps.map a.eval),by simp [execOp,ho,Instr.makeFunc],by
  simp only [AL]; exact ⟨_,rfl,by simpa using En hl ht⟩⟩
theorem Mx {i:Nat} {x:Operand} {x':Opd} (ho:o.op = .extract x i) (hx:AX N x=some x'):Bl P ρ B N o (LZ i x' cf t h n) t h n:=by
 intro κ hg
 have e:LZ i x' cf t h n κ=Kh (ev x' t) fun l=>Ea i l fun v=>κ v h n:=by simp only [LZ,AR]
 rw [e] at hg
 obtain ⟨l,hb,e'⟩:=Ku hg
 rw [e'] at hg
 obtain ⟨v,hv,e2⟩:=Es hg
 refine ⟨v,e.trans (e'.trans e2),fun φ a w ht hg=>?_⟩
 have h1:=An hx ht
 rw [hb] at h1
 obtain ⟨cs,h1,hl⟩:=PY h1
 obtain ⟨X,hX,hr⟩:=(Cc.1 hl).2 i v hv
 exact ⟨X,by simp [execOp,ho,h1,Instr.extract,show cs[i]? = some X by simpa using hX],hr⟩
theorem D9 {v:V} {κ:Nat->R} (h:(Ip v κ).good):∃ k r,v = .int k r∧r<Hk k∧Ip v κ=κ r:=by
 obtain ⟨k,r,rfl,e⟩:=Cn (show R.good (G3 v _) from h)
 have h:R.good (br (Nat.ble (Nat.succ r) (Hk k)) (κ r) (.fail "")):=h
 obtain ⟨h1,e1⟩:=Ap h
 exact ⟨k,r,rfl,BU h1,e1⟩
theorem EI {φ:B9} {k:IntKind} {r:Nat} (hr:r<Hk k) {X:Value} (h:AL ρ φ (.int k r) X):X = .int k (r:Int):=by rw [(Cb h).2,AI hr]
theorem LE {s:TypeId} {f:Nat} {fs:Array Field} {fd:Field} {x:Operand} {x':Opd} (ho:o.op = .fieldAddr s x f) (hx:AX N x=some x') (hs:P.underlying s=some (.struct fs)) (hf:fs[f]? = some fd) {sz:Nat} (hsz:Bv P fd.type=some (sz+1)) :
  Bl P ρ B N o (Le fd.offset x' cf t h n) t h n:=by
 intro κ hg
 have e:Le fd.offset x' cf t h n κ=Pw (ev x' t) (fun p o=>κ (.ptr p (Nat.add o fd.offset)) h n) (fun o=>QY o (fun i j m=>br (Nat.ble (Nat.succ fd.offset) m) (κ (.oth (.ap i (Nat.add j fd.offset) (Nat.sub m fd.offset))) h n) (.fail "")) (.fail "")):=by simp only [Le,AR,Ai]
 rw [e] at hg
 rcases Kb hg with ⟨p,off,hb,e'⟩ | ⟨oo,hb,e'⟩
 rotate_left
 ·rw [e'] at hg
  cases oo with
  | ap i j m =>
   have hg':R.good (br (Nat.ble (Nat.succ fd.offset) m) (κ (.oth (.ap i (Nat.add j fd.offset) (Nat.sub m fd.offset))) h n) (.fail "")):=hg
   obtain ⟨h1,e1⟩:=Ap hg'
   have h1:=BU h1
   refine ⟨_,e.trans (e'.trans e1),fun φ a w ht hg=>?_⟩
   have h2:=An hx ht
   rw [hb] at h2
   simp only [AL] at h2
   obtain ⟨b,q,c,e2,fr,h2,c1,c2⟩:=h2
   refine ⟨.pointer (some ⟨b,q+fd.offset,none⟩),?_,?_⟩
   ·have hfp:(fieldPlace ⟨b,q,none⟩ fd).run P w = .ok ⟨b,q+fd.offset,none⟩ w:=by
     unfold fieldPlace
     simp [CR,Bf hsz]
    simp [execOp,ho,h2,Instr.fieldAt,run_underlying hs,hf,Instr.sureAddr,hfp]
   ·simp only [AL]
    refine ⟨b,q+fd.offset,c,e2,fr,rfl,c1,fun j' hj=>?_⟩
    have hj:j'<m - fd.offset:=hj
    obtain ⟨y,y1,y2⟩:=c2 (fd.offset+j') (by omega)
    refine ⟨y,by rw [Nat.add_assoc]; exact y1,?_⟩
    have e5:Nat.add j fd.offset+j'=j+(fd.offset+j'):=Nat.add_assoc ..
    rw [e5]; exact y2
  | _=>exact hg.elim
 refine ⟨_,e.trans e',fun φ a w ht hg=>?_⟩
 have h1:=An hx ht
 rw [hb] at h1
 obtain ⟨b,sh,tot,hp,h1⟩:=CJ h1
 refine ⟨.pointer (some ⟨b,sh+(off+fd.offset),none⟩),?_,by simp only [AL]; exact ⟨b,sh,tot,hp,rfl⟩⟩
 have hfp:(fieldPlace ⟨b,sh+off,none⟩ fd).run P w = .ok ⟨b,sh+(off+fd.offset),none⟩ w:=by
  unfold fieldPlace
  simp [CR,Nat.add_assoc,Bf hsz]
 simp [execOp,ho,h1,Instr.fieldAt,run_underlying hs,hf,Instr.sureAddr,hfp]
theorem Ms {s:TypeId} {f:Nat} {fs:Array Field} {fd:Field} {ag:Bool} {sz:Nat} {x:Operand} {x':Opd} (ho:o.op = .field s x f) (hx:AX N x=some x') (hs:P.underlying s=some (.struct fs)) (hf:fs[f]? = some fd)
  (ha:Ki P fd.type=some ag) (hsz:Bv P fd.type=some sz):Bl P ρ B N o (LB fd.offset sz ag x' cf t h n) t h n:=by
 intro κ hg
 have e:LB fd.offset sz ag x' cf t h n κ=asAgg (ev x' t) fun l=>br ag (E4 fd.offset l fun r=>Dn sz r fun r=>κ (.agg r) h n) (Ea fd.offset l fun v=>κ v h n):=by simp only [LB,AR]
 rw [e] at hg
 obtain ⟨l,hb,e'⟩:=Cx hg
 rw [e'] at hg
 cases ag with
 | true =>
  have hg:R.good (E4 fd.offset l fun r=>Dn sz r fun r=>κ (.agg r) h n):=hg
  obtain ⟨_,e2⟩:=EO hg
  rw [e2] at hg
  obtain ⟨h3,e3⟩:=EN hg
  refine ⟨.agg ((l.drop fd.offset).take sz),e.trans (e'.trans (e2.trans e3)),fun φ a w ht hg=>?_⟩
  have h1:=An hx ht
  rw [hb] at h1
  obtain ⟨cs,h1,hl,h2⟩:=DV h1
  refine ⟨.agg (cs.extract fd.offset (fd.offset+sz)),by simp [execOp,ho,h1,Instr.field,run_underlying hs,hf,Go.asAgg,part,CC ha,Bf hsz],?_⟩
  simp only [AL]
  have hx:(cs.extract fd.offset (fd.offset+sz)).toList=(cs.toList.drop fd.offset).take sz:=by simp
  exact ⟨_,rfl,by rw [hx]; exact Iy (IS hl _) _,fun y hy=>h2 y (by rw [hx] at hy; exact List.mem_of_mem_drop (List.mem_of_mem_take hy))⟩
 | false =>
  have hg:R.good (Ea fd.offset l fun v=>κ v h n):=hg
  obtain ⟨v,hv,e2⟩:=Es hg
  refine ⟨v,e.trans (e'.trans e2),fun φ a w ht hg=>?_⟩
  have h1:=An hx ht
  rw [hb] at h1
  obtain ⟨cs,h1,hl,h2⟩:=DV h1
  obtain ⟨X,hX,hr⟩:=(Cc.1 hl).2 _ v hv
  exact ⟨X,by simp [execOp,ho,h1,Instr.field,run_underlying hs,hf,Go.asAgg,part,CC ha,show cs[fd.offset]? = some X by simpa using hX],hr⟩
theorem Mq {ty e:TypeId} {esz:Nat} {x i:Operand} {x' i':Opd} (ho:o.op = .indexAddr ty x i) (hx:AX N x=some x') (hi:AX N i=some i') (ht:P.underlying ty=some (.slice e)) (he:Bv P e=some esz) :
  Bl P ρ B N o (LP esz x' i' cf t h n) t h n:=by
 intro κ hg
 have e1:LP esz x' i' cf t h n κ=Ip (ev i' t) fun a=>He (ev x' t) (.fail "") (fun p off len cap ex esz'=>br (Nat.beq esz' esz) (br (Nat.ble (Nat.succ a) len) (κ (.ptr p (Nat.add off (Nat.mul a esz))) h n) (.fail "")) (.fail ""))
   (fun o=>OP o (fun i lo hi z=>br (Nat.beq z esz) (br (Nat.ble (Nat.succ a) lo) (κ (.oth (.ap i (Nat.mul a esz) esz)) h n) (.fail "")) (.fail "")) (.fail "")):=by
  simp only [LP,AR,Ai]
 rw [e1] at hg
 obtain ⟨k,r,hiv,hr,e2⟩:=D9 hg
 rw [e2] at hg
 rcases Jf hg with ⟨_,e3⟩ | ⟨p,off,len,cap,ex,esz',hxv,e3⟩ | ⟨oo,hxv,e3⟩
 ·rw [e3] at hg; exact hg.elim
 rotate_left
 ·rw [e3] at hg
  cases oo with
  | ro i0 l0 l1 z =>
   have hg':R.good (br (Nat.beq z esz) (br (Nat.ble (Nat.succ r) l0) (κ (.oth (.ap i0 (Nat.mul r esz) esz)) h n) (.fail "")) (.fail "")):=hg
   obtain ⟨h4,e4⟩:=Ap hg'
   rw [e4] at hg'
   obtain ⟨h5,e5⟩:=Ap hg'
   have h4:=Nat.eq_of_beq_eq_true h4
   have h5:=BU h5
   subst h4
   refine ⟨_,e1.trans (e2.trans (e3.trans (e4.trans e5))),fun φ a w hT hg=>?_⟩
   have g1:=An hx hT
   have g2:=An hi hT
   rw [hxv] at g1; rw [hiv] at g2
   simp only [AL] at g1
   obtain ⟨b,q,len,cap,c,e',fr,g1,c1,c2,c3,c4,c5⟩:=g1
   have g2:=EI hr g2
   refine ⟨.pointer (some ⟨b,q+r*z,none⟩),?_,?_⟩
   ·simp only [execOp,ho,g1,g2,Instr.indexAt,Go.asIntOf,Sem.run_bind,Sem.run_pure,Result.andThen_ok,run_underlying ht]
    have hc:(0:Int)≤(r:Int)∧(r:Int)<(len:Int):=by omega
    simp [hc,Bf he,CR]
   ·simp only [AL]
    refine ⟨b,q+r*z,c,e',fr,rfl,c4,fun j hj=>?_⟩
    have h6:r*z+j<len*z:=Nat.lt_of_lt_of_le (Nat.add_lt_add_left hj _) (by rw [←Nat.succ_mul]; exact Nat.mul_le_mul_right _ (by omega))
    obtain ⟨y,y1,y2⟩:=c5 (r*z+j) h6
    exact ⟨y,by rw [Nat.add_assoc]; exact y1,y2⟩
  | _=>exact hg.elim
 rw [e3] at hg
 obtain ⟨h4,e4⟩:=Ap hg
 rw [e4] at hg
 obtain ⟨h5,e5⟩:=Ap hg
 have h4:=Nat.eq_of_beq_eq_true h4
 have h5:=BU h5
 subst h4
 refine ⟨_,e1.trans (e2.trans (e3.trans (e4.trans e5))),fun φ a w hT hg=>?_⟩
 have g1:=An hx hT
 have g2:=An hi hT
 rw [hxv] at g1; rw [hiv] at g2
 obtain ⟨b,s,tot,q,cap',hp,g1,c1,c2,c3,c4⟩:=CG g1
 have g2:=EI hr g2
 obtain ⟨c5,c6⟩:=c4 (by omega)
 refine ⟨.pointer (some ⟨b,s+(off+r*esz'),none⟩),?_,by simp only [AL]; exact ⟨b,s,tot,hp,rfl⟩⟩
 simp only [execOp,ho,g1,g2,Instr.indexAt,Go.asIntOf,Sem.run_bind,Sem.run_pure,Result.andThen_ok,run_underlying ht]
 have hc:(0:Int)≤(r:Int)∧(r:Int)<(len:Int):=by omega
 simp [hc,Bf he,CR,c5,Nat.add_assoc]
theorem Lf {ty e:TypeId} {m esz:Nat} {x i:Operand} {x' i':Opd} (ho:o.op = .indexAddr ty x i) (hx:AX N x=some x') (hi:AX N i=some i') (ht:P.underlying ty=some (.array m e)) (he:Bv P e=some esz) :
  Bl P ρ B N o (LX m esz x' i' cf t h n) t h n:=by
 intro κ hg
 have e1:LX m esz x' i' cf t h n κ=Ip (ev i' t) fun a=>IB (ev x' t) fun p off=>br (Nat.ble (Nat.succ a) m) (κ (.ptr p (Nat.add off (Nat.mul a esz))) h n) (.fail ""):=by
  simp only [LX,AR,Ai]
 rw [e1] at hg
 obtain ⟨k,r,hiv,hr,e2⟩:=D9 hg
 rw [e2] at hg
 obtain ⟨p,off,hxv,e3⟩:=CW hg
 rw [e3] at hg
 obtain ⟨h5,e5⟩:=Ap hg
 have h5:=BU h5
 refine ⟨_,e1.trans (e2.trans (e3.trans e5)),fun φ a w hT hg=>?_⟩
 have g1:=An hx hT
 have g2:=An hi hT
 rw [hxv] at g1; rw [hiv] at g2
 obtain ⟨b,s,tot,hp,g1⟩:=CJ g1
 have g2:=EI hr g2
 refine ⟨.pointer (some ⟨b,s+(off+r*esz),none⟩),?_,by simp only [AL]; exact ⟨b,s,tot,hp,rfl⟩⟩
 simp only [execOp,ho,g1,g2,Instr.indexAt,Go.asIntOf,Instr.sureAddr,Sem.run_bind,Sem.run_pure,Result.andThen_ok,run_underlying ht]
 have hc:(0:Int)≤(r:Int)∧(r:Int)<(m:Int):=by omega
 simp [hc,Bf he,CR,Nat.add_assoc]
theorem Lq {ty:TypeId} {x i:Operand} {x' i':Opd} (ho:o.op = .index ty x i) (hx:AX N x=some x') (hi:AX N i=some i') (ht:P.underlying ty=some .string) :
  Bl P ρ B N o (Lc x' i' cf t h n) t h n:=by
 intro κ hg
 have e1:Lc x' i' cf t h n κ=Ip (ev i' t) fun a=>Bh (ev x' t) fun m c=>br (Nat.ble (Nat.succ a) m) (κ (.int .u8 (lo (sh c a) 1)) h n) (.fail ""):=by
  simp only [Lc,AR,Ai]
 rw [e1] at hg
 obtain ⟨k,r,hiv,hr,e2⟩:=D9 hg
 rw [e2] at hg
 obtain ⟨m,c,hxv,e3⟩:=BV hg
 rw [e3] at hg
 obtain ⟨h5,e5⟩:=Ap hg
 have h5:=BU h5
 refine ⟨_,e1.trans (e2.trans (e3.trans e5)),fun φ a w hT hg=>?_⟩
 have g1:=An hx hT
 have g2:=An hi hT
 rw [hxv] at g1; rw [hiv] at g2
 obtain ⟨s,gx,hs,hc⟩:=Ci g1
 have g2:=EI hr g2
 clear g1
 subst hs hc
 have hr':r<s.data.toList.length:=by rw [BH]; exact h5
 have hb:lo (sh (B5 s.data.toList) r) 1=s.data.toList[r].toNat:=by rw [Uz]; exact HK _ _ hr'
 have hlt:=s.data.toList[r].toNat_lt
 refine ⟨.int .u8 (s.data.toList[r].toNat:Nat),?_,?_⟩
 ·simp only [execOp,ho,gx,g2,Instr.index,Go.asIntOf,Sem.run_bind,Sem.run_pure,Result.andThen_ok,run_underlying ht]
  have h0:(0:Int)≤(r:Int):=by omega
  have AM:s[(r:Int).toNat]? = some s.data.toList[r]:=by
   rw [Int.toNat_natCast,getElem?_pos s r h5]; rfl
  simp only [h0,if_true,AM,Sem.run_pure,Result.andThen_ok]
 ·rw [hb]
  simp only [AL]
  refine ⟨by simp [Mk]; exact hlt,?_⟩
  rw [AI (by simp [Hk]; exact hlt)]
theorem LT {ty e:TypeId} {m esz:Nat} {ag:Bool} {x i:Operand} {x' i':Opd} (ho:o.op = .index ty x i) (hx:AX N x=some x') (hi:AX N i=some i') (ht:P.underlying ty=some (.array m e))
  (ha:Ki P e=some ag) (he:Bv P e=some esz):Bl P ρ B N o (M2 m esz ag x' i' cf t h n) t h n:=by
 intro κ hg
 have e1:M2 m esz ag x' i' cf t h n κ=Ip (ev i' t) fun a=>asAgg (ev x' t) fun l=>br (Nat.ble (Nat.succ a) m) (br ag (E4 (Nat.mul a esz) l fun r=>Dn esz r fun r=>κ (.agg r) h n) (Ea (Nat.mul a esz) l fun v=>κ v h n)) (.fail ""):=by
  simp only [M2,AR,Ai]
 rw [e1] at hg
 obtain ⟨k,r,hiv,hr,e2⟩:=D9 hg
 rw [e2] at hg
 obtain ⟨l,hxv,e3⟩:=Cx hg
 rw [e3] at hg
 obtain ⟨h5,e5⟩:=Ap hg
 rw [e5] at hg
 have h5:=BU h5
 have key:∀ (v:V) (part:∀ (φ:B9) (cs:Array Value) (w:World),Bs ρ φ l cs.toList->(∀ y∈cs.toList,y.oneCell'=true)->∃ X,(Go.part e cs (r*esz)).run P w = .ok X w∧AL ρ φ v X),RL P ρ B N o t h n v:=fun v part =>
  fun φ a w hT hg=>by
   have g1:=An hx hT
   have g2:=An hi hT
   rw [hxv] at g1; rw [hiv] at g2
   obtain ⟨cs,g1,hl,h2⟩:=DV g1
   have g2:=EI hr g2
   obtain ⟨X,hX,hrX⟩:=part φ cs w hl h2
   refine ⟨X,?_,hrX⟩
   simp only [execOp,ho,g1,g2,Instr.index,Go.asIntOf,Sem.run_bind,Sem.run_pure,Result.andThen_ok,run_underlying ht]
   have hc:(0:Int)≤(r:Int)∧(r:Int)<(m:Int):=by omega
   simp [hc,Bf he,hX]
 cases ag with
 | true =>
  have hg:R.good (E4 (r*esz) l fun r=>Dn esz r fun r=>κ (.agg r) h n):=hg
  obtain ⟨_,e6⟩:=EO hg
  rw [e6] at hg
  obtain ⟨h7,e7⟩:=EN hg
  refine ⟨.agg ((l.drop (r*esz)).take esz),e1.trans (e2.trans (e3.trans (e5.trans (e6.trans e7)))),key _ fun φ cs w hl h2=>?_⟩
  refine ⟨.agg (cs.extract (r*esz) (r*esz+esz)),by simp [part,CC ha,Bf he],?_⟩
  simp only [AL]
  have hx:(cs.extract (r*esz) (r*esz+esz)).toList=(cs.toList.drop (r*esz)).take esz:=by simp
  exact ⟨_,rfl,by rw [hx]; exact Iy (IS hl _) _,fun y hy=>h2 y (by rw [hx] at hy; exact List.mem_of_mem_drop (List.mem_of_mem_take hy))⟩
 | false =>
  have hg:R.good (Ea (r*esz) l fun v=>κ v h n):=hg
  obtain ⟨v,hv,e6⟩:=Es hg
  refine ⟨v,e1.trans (e2.trans (e3.trans (e5.trans e6))),key v fun φ cs w hl h2=>?_⟩
  obtain ⟨X,hX,hrX⟩:=(Cc.1 hl).2 _ v hv
  exact ⟨X,by simp [part,CC ha,show cs[r*esz]? = some X by simpa using hX],hrX⟩
theorem J7 {x:Operand} {x':Opd} (ho:o.op = .nilCheck x) (hx:AX N x=some x'):Bl P ρ B N o (E1 x' cf t h n) t h n:=by
 intro κ hg
 cases hv:ev x' t with
 | ptr p off =>
  refine ⟨_,(by simp only [E1,AR]; rw [hv]:E1 x' cf t h n κ=κ (.ptr p off) h n),fun φ a w hT hg=>?_⟩
  have g1:=An hx hT
  rw [hv] at g1
  obtain ⟨b,s,tot,hp,e⟩:=CJ g1
  exact ⟨a.eval x,by simp [execOp,ho,e],g1⟩
 | fn f l =>
  refine ⟨_,(by simp only [E1,AR]; rw [hv]:E1 x' cf t h n κ=κ (.fn f l) h n),fun φ a w hT hg=>?_⟩
  have g1:=An hx hT
  rw [hv] at g1
  obtain ⟨cs,e,hl⟩:=Iw g1
  exact ⟨a.eval x,by simp [execOp,ho,e],g1⟩
 | _ =>
  have e:E1 x' cf t h n κ = .fail "":=by simp only [E1,AR]; rw [hv]
  rw [e] at hg; exact hg.elim
theorem NM {k:IntKind} {x y:Int} (w:World):(Builtin.max2 (.int k x) (.int k y)).run P w = .ok (.int k (if y > x then y else x)) w:=rfl
theorem Sk {k:IntKind} {x y:Int} (w:World):(Builtin.min2 (.int k x) (.int k y)).run P w = .ok (.int k (if y<x then y else x)) w:=rfl
theorem M5 {c:Call} {x y:Operand} {x' y':Opd} (ho:o.op = .call c) (hc:c.callee = .builtin .min) (ha:c.args.toList=[x,y]) (hx:AX N x=some x') (hy:AX N y=some y') :
  Bl P ρ B N o (Lr x' y' cf t h n) t h n:=by
 intro κ hg
 have e1:Lr x' y' cf t h n κ=Vx (ev x' t) (ev y' t) fun v=>κ v h n:=by simp only [Lr,AR]
 rw [e1] at hg
 obtain ⟨u,e2,H⟩:=ST hg
 refine ⟨u,e1.trans e2,fun φ ac w hT hg=>?_⟩
 have g1:=An hx hT
 have g2:=An hy hT
 obtain ⟨k,p,q,q1,q2,hr⟩:=H ρ φ _ _ g1 g2
 have hargs:c.args = #[x,y]:=by rw [←ha]
 refine ⟨_,?_,hr⟩
 simp only [execOp,ho,resolve,hc,hargs,invoke,builtin,Builtin.min_,Sem.run_bind,Sem.run_pure,Result.andThen_ok]
 simp only [List.map_toArray,List.map_cons,List.map_nil,List.foldlM_cons,List.foldlM_nil,q1,q2,Sem.run_bind,Sk,Result.andThen_ok,Sem.run_pure]
theorem Mp {c:Call} {x y:Operand} {x' y':Opd} (ho:o.op = .call c) (hc:c.callee = .builtin .max) (ha:c.args.toList=[x,y]) (hx:AX N x=some x') (hy:AX N y=some y') :
  Bl P ρ B N o (Mi x' y' cf t h n) t h n:=by
 intro κ hg
 have e1:Mi x' y' cf t h n κ=Vw (ev x' t) (ev y' t) fun v=>κ v h n:=by simp only [Mi,AR]
 rw [e1] at hg
 obtain ⟨u,e2,H⟩:=Sq hg
 refine ⟨u,e1.trans e2,fun φ ac w hT hg=>?_⟩
 have g1:=An hx hT
 have g2:=An hy hT
 obtain ⟨k,p,q,q1,q2,hr⟩:=H ρ φ _ _ g1 g2
 have hargs:c.args = #[x,y]:=by rw [←ha]
 refine ⟨_,?_,hr⟩
 simp only [execOp,ho,resolve,hc,hargs,invoke,builtin,Builtin.max_,Sem.run_bind,Sem.run_pure,Result.andThen_ok]
 simp only [List.map_toArray,List.map_cons,List.map_nil,List.foldlM_cons,List.foldlM_nil,q1,q2,Sem.run_bind,NM,Result.andThen_ok,Sem.run_pure]
theorem Hm {l:List Operand} {x:Opd} {xs:List Opd} (h:Bz N l=some (x::xs)):∃ x0 l0,l=x0::l0∧AX N x0=some x∧Bz N l0=some xs:=by
 cases l with
 | nil=>simp [Bz] at h
 | cons a l =>
  simp only [Bz] at h
  split at h
  ·rename_i y ys h1 h2
   cases h
   exact ⟨a,l,rfl,h1,h2⟩
  ·cases h
theorem Gi {l:List Operand} {x y z:Opd} (h:Bz N l=some [x,y,z]):∃ x0 y0 z0,l=[x0,y0,z0]∧AX N x0=some x∧AX N y0=some y∧AX N z0=some z:=by
 obtain ⟨x0,l0,rfl,hx,h⟩:=Hm h
 obtain ⟨y0,l1,rfl,hy,h⟩:=Hm h
 obtain ⟨z0,l2,rfl,hz,h⟩:=Hm h
 cases l2 with
 | nil=>exact ⟨x0,y0,z0,rfl,hx,hy,hz⟩
 | cons a l =>
  simp only [Bz] at h
  split at h <;> cases h
theorem JW {c:Call} {x y z:Operand} {x' y' z':Opd} (ho:o.op = .call c) (hc:c.callee = .builtin .max) (ha:c.args.toList=[x,y,z]) (hx:AX N x=some x') (hy:AX N y=some y') (hz:AX N z=some z') :
  Bl P ρ B N o (IL x' y' z' cf t h n) t h n:=by
 intro κ hg
 have e1:IL x' y' z' cf t h n κ=G3 (ev x' t) fun k a=>G3 (ev y' t) fun j b=>G3 (ev z' t) fun i c=>br (Bn k j) (br (Bn k i) (br (Hh k a b) (br (Hh k b c) (κ (ev z' t) h n) (κ (ev y' t) h n)) (br (Hh k a c) (κ (ev z' t) h n) (κ (ev x' t) h n))) (.fail "")) (.fail ""):=by simp only [IL,AR]
 rw [e1] at hg
 obtain ⟨k,a,hxv,e2⟩:=Cn hg
 rw [e2] at hg
 obtain ⟨j,b,hyv,e3⟩:=Cn hg
 rw [e3] at hg
 obtain ⟨i,d,hzv,e4⟩:=Cn hg
 rw [e4] at hg
 obtain ⟨rfl,e5⟩:=kb hg
 rw [e5] at hg
 obtain ⟨rfl,e6⟩:=kb hg
 refine ⟨if Hh k a b then (if Hh k b d then ev z' t else ev y' t) else (if Hh k a d then ev z' t else ev x' t),e1.trans (e2.trans (e3.trans (e4.trans (e5.trans (e6.trans (by cases Hh k a b <;> cases Hh k b d <;> cases Hh k a d <;> rfl)))))),fun φ ac w hT hg=>?_⟩
 have g1:=An hx hT
 have g2:=An hy hT
 have g3:=An hz hT
 have g1':=g1; have g2':=g2; have g3':=g3
 rw [hxv] at g1'; rw [hyv] at g2'; rw [hzv] at g3'
 obtain ⟨ha1,q1⟩:=Cb g1'
 obtain ⟨hb1,q2⟩:=Cb g2'
 obtain ⟨hd1,q3⟩:=Cb g3'
 have hargs:c.args = #[x,y,z]:=by rw [←ha]
 refine ⟨if Hh k a b then (if Hh k b d then ac.eval z else ac.eval y) else (if Hh k a d then ac.eval z else ac.eval x),?_,by cases Hh k a b <;> cases Hh k b d <;> cases Hh k a d <;> assumption⟩
 simp only [execOp,ho,resolve,hc,hargs,invoke,builtin,Builtin.max_,Sem.run_bind,Sem.run_pure,Result.andThen_ok]
 simp only [List.map_toArray,List.map_cons,List.map_nil,List.foldlM_cons,List.foldlM_nil,q1,q2,q3,Sem.run_bind,NM,Result.andThen_ok,Sem.run_pure]
 rw [Ej ha1 hb1,Ej hb1 hd1,Ej ha1 hd1]
 by_cases h1:C3 k a<C3 k b <;> by_cases h2:C3 k b<C3 k d <;> by_cases h3:C3 k a<C3 k d <;> simp [h1,h2,h3]
end
end Go.Ev

namespace Go.Ev
set_option linter.unusedVariables false
section
variable {P:Program} {ρ:Env} {B N:Nat} {o:Oper} {cf:CF} {t:Regs} {h:Heap} {n:K4}
def NI (v:Option Value) (r d:Nat):Prop:=(v=none∧r=d) ∨ ∃ k,v=some (.int k (r:Int))
theorem Ca {oo:Option Operand} {x:Option Opd} (hx:Fw N oo=some x) {d:Nat} {κ:Nat->R} (hg:(Cp x t d κ).good) :
  ∃ r,Cp x t d κ=κ r ∧ ∀ φ a,TR ρ N φ t a->NI (oo.map a.eval) r d:=by
 cases oo with
 | none =>
  simp only [Fw,Option.some.injEq] at hx; subst hx
  exact ⟨d,rfl,fun φ a _=>.inl ⟨rfl,rfl⟩⟩
 | some y =>
  simp only [Fw] at hx
  cases hy:AX N y with
  | none=>rw [hy] at hx; cases hx
  | some y' =>
   rw [hy] at hx; cases hx
   have e:Cp (some y') t d κ=Ip (ev y' t) κ:=AR y' t _
   rw [e] at hg
   obtain ⟨k,r,hv,hr,e'⟩:=D9 hg
   refine ⟨r,e.trans e',fun φ a ht=>.inr ⟨k,?_⟩⟩
   have:=An hy ht
   rw [hv] at this
   rw [Option.map_some,EI hr this]
theorem DU {sl:Bool} {len cap:Nat} {lo hi:Option Value} {l m:Nat} (hl:NI lo l 0) (hh:NI hi m len) (h1:l≤m) (h2:m≤cap) (w:World) :
  (Instr.sliceBounds sl len cap lo hi none).run P w = .ok (l,m,cap) w:=by
 have hb:∀ (k:IntKind) (r y:Nat) (c:BoundsCode),r≤y->(Instr.sliceBound (.int k (r:Int)) y c).run P w = .ok r w:=fun k r y c hr=>by
  simp only [Instr.sliceBound,Go.asIntOf,Sem.run_bind,Sem.run_pure,Result.andThen_ok]
  have hc:(0:Int)≤(r:Int)∧(r:Int)≤(y:Int):=by omega
  simp [hc]
 rcases hl with ⟨rfl,rfl⟩ | ⟨k,rfl⟩ <;> rcases hh with ⟨rfl,rfl⟩ | ⟨j,rfl⟩ <;> simp [Instr.sliceBounds,hb _ _ _ _ h1,hb _ _ _ _ h2]
theorem Ls {ty:TypeId} {x:Operand} {lo hi:Option Operand} {x':Opd} {lo' hi':Option Opd} (ho:o.op = .slice ty x lo hi none) (hx:AX N x=some x') (hlo:Fw N lo=some lo') (hhi:Fw N hi=some hi')
  (ht:P.underlying ty=some .string):Bl P ρ B N o (HP x' lo' hi' cf t h n) t h n:=by
 intro κ hg
 have e0:HP x' lo' hi' cf t h n κ=TT (ev x' t) (fun l0 l1 _ _=>br (br (DW hi') true (Nat.beq l0 l1)) (Cp hi' t l0 fun b=>Cp lo' t 0 fun a=>br (Nat.ble a b) (br (Nat.ble b l0) (κ (.oth (.ss (Nat.sub b a) (Nat.sub b a) (Nat.succ (Nat.sub b a)) 0)) h n) (.fail "")) (.fail "")) (.fail "")) (Bh (ev x' t) fun m c=>Cp hi' t m fun b=>Cp lo' t 0 fun a=>br (Nat.ble a b) (br (Nat.ble b m) (κ (.str (Nat.sub b a) (Ev.lo (sh c a) (Nat.sub b a))) h n) (.fail "")) (.fail "")):=by
  simp only [HP,AR,Ai]
 rw [e0] at hg
 rcases IQ (ev x' t) (fun l0 l1 _ _=>br (br (DW hi') true (Nat.beq l0 l1)) (Cp hi' t l0 fun b=>Cp lo' t 0 fun a=>br (Nat.ble a b) (br (Nat.ble b l0) (κ (.oth (.ss (Nat.sub b a) (Nat.sub b a) (Nat.succ (Nat.sub b a)) 0)) h n) (.fail "")) (.fail "")) (.fail "")) (Bh (ev x' t) fun m c=>Cp hi' t m fun b=>Cp lo' t 0 fun a=>br (Nat.ble a b) (br (Nat.ble b m) (κ (.str (Nat.sub b a) (Ev.lo (sh c a) (Nat.sub b a))) h n) (.fail "")) (.fail "")) with ⟨l0,l1,_,_,hxv,e1⟩ | e1
 ·rw [e1] at hg
  obtain ⟨hex,e2⟩:=Ap hg
  rw [e2] at hg
  obtain ⟨b,e3,hb⟩:=Ca (ρ:=ρ) hhi hg
  rw [e3] at hg
  obtain ⟨a,e4,ha⟩:=Ca (ρ:=ρ) hlo hg
  rw [e4] at hg
  obtain ⟨h6,e6⟩:=Ap hg
  rw [e6] at hg
  obtain ⟨h7,e7⟩:=Ap hg
  have h6:=Ar.1 h6; have h7:=Ar.1 h7
  refine ⟨_,e0.trans (e1.trans (e2.trans (e3.trans (e4.trans (e6.trans e7))))),fun φ ac w hT hg=>?_⟩
  have g1:=An hx hT
  rw [hxv] at g1
  simp only [AL] at g1
  obtain ⟨s,gx,c1,c2,_⟩:=g1
  have hb':NI (hi.map ac.eval) b s.size:=by
   rcases hb φ ac hT with ⟨h1,h2⟩ | h1
   ·left
    refine ⟨h1,?_⟩
    have hn:DW hi'=false:=by
     cases hi with
     | some y=>cases h1
     | none=>simp only [Fw,Option.some.injEq] at hhi; subst hhi; rfl
    rw [hn,B2] at hex
    have:=Nat.eq_of_beq_eq_true hex
    omega
   ·exact .inr h1
  refine ⟨.string (s.extract a b),?_,?_⟩
  ·simp only [execOp,ho,gx,Instr.sliceAt,Instr.slice,Sem.run_bind,run_underlying ht,Result.andThen_ok,Option.map_none]
   simp [DU (ha φ ac hT) hb' h6 (by omega:b≤s.size)]
  ·simp only [AL]
   have hsz:(s.extract a b).size=b - a:=by rw [ByteArray.size_extract]; omega
   exact ⟨_,rfl,by show b - a≤_; omega,by show _≤b - a; omega,fun h=>by have h1:(s.extract a b).size=(b - a)+1:=h.1; omega⟩
 have e1:=e0.trans e1
 rw [←e0,e1] at hg
 obtain ⟨m,c,hxv,e2⟩:=BV hg
 rw [e2] at hg
 obtain ⟨b,e3,hb⟩:=Ca (ρ:=ρ) hhi hg
 rw [e3] at hg
 obtain ⟨a,e4,ha⟩:=Ca (ρ:=ρ) hlo hg
 rw [e4] at hg
 obtain ⟨h5,e5⟩:=Ap hg
 rw [e5] at hg
 obtain ⟨h6,e6⟩:=Ap hg
 have h5:=Ar.1 h5; have h6:=Ar.1 h6
 refine ⟨_,e1.trans (e2.trans (e3.trans (e4.trans (e5.trans e6)))),fun φ ac w hT hg=>?_⟩
 have g1:=An hx hT
 rw [hxv] at g1
 obtain ⟨s,gx,hs,hc⟩:=Ci g1
 clear g1
 subst hs hc
 refine ⟨.string (s.extract a b),?_,?_⟩
 ·simp only [execOp,ho,gx,Instr.sliceAt,Instr.slice,Sem.run_bind,run_underlying ht,Result.andThen_ok,Option.map_none]
  simp [DU (ha φ ac hT) (hb φ ac hT) h5 h6]
 ·have:=PW (s.extract a b) ρ φ
  have e:(s.extract a b).data.toList=(s.data.toList.drop a).take (b - a):=by
   rw [ByteArray.data_extract]; simp
  rw [e,←Ta,←Oe] at this
  have hsz:(s.extract a b).size=b - a:=by rw [ByteArray.size_extract]; omega
  rw [hsz] at this
  rw [Dt,EM]; exact this
theorem Lk {ty e:TypeId} {esz:Nat} {x:Operand} {lo hi:Option Operand} {x':Opd} {lo' hi':Option Opd} (ho:o.op = .slice ty x lo hi none) (hx:AX N x=some x') (hlo:Fw N lo=some lo') (hhi:Fw N hi=some hi')
  (ht:P.underlying ty=some (.slice e)) (he:Bv P e=some esz):Bl P ρ B N o (If esz x' lo' hi' cf t h n) t h n:=by
 intro κ hg
 have e0:If esz x' lo' hi' cf t h n κ=VX (ev x' t) (fun l0 l1=>br (br (DW hi') true (Nat.beq l0 l1)) (Cp hi' t l0 fun b=>Cp lo' t 0 fun a=>br (Nat.ble a b) (br (Nat.ble b l0) (κ (.oth (.os (Nat.sub b a) (Nat.sub b a))) h n) (.fail "")) (.fail "")) (.fail "")) (CU (ev x' t) (Cp hi' t 0 fun b=>Cp lo' t 0 fun a=>br (Nat.beq b 0) (br (Nat.beq a 0) (κ (.nil .sl) h n) (.fail "")) (.fail ""))
   (fun p off len cap ex esz'=>Cp hi' t len fun b=>Cp lo' t 0 fun a=>br (Nat.beq esz' esz) (br (Nat.ble a b) (br (Nat.ble b cap) (κ (.sl p (Nat.add off (Nat.mul a esz)) (Nat.sub b a) (Nat.sub cap a) ex esz) h n) (.fail "")) (.fail "")) (.fail ""))):=by
  simp only [If,AR,Ai]
 rw [e0] at hg
 rcases R4 (ev x' t) (fun l0 l1=>br (br (DW hi') true (Nat.beq l0 l1)) (Cp hi' t l0 fun b=>Cp lo' t 0 fun a=>br (Nat.ble a b) (br (Nat.ble b l0) (κ (.oth (.os (Nat.sub b a) (Nat.sub b a))) h n) (.fail "")) (.fail "")) (.fail "")) (CU (ev x' t) (Cp hi' t 0 fun b=>Cp lo' t 0 fun a=>br (Nat.beq b 0) (br (Nat.beq a 0) (κ (.nil .sl) h n) (.fail "")) (.fail ""))
   (fun p off len cap ex esz'=>Cp hi' t len fun b=>Cp lo' t 0 fun a=>br (Nat.beq esz' esz) (br (Nat.ble a b) (br (Nat.ble b cap) (κ (.sl p (Nat.add off (Nat.mul a esz)) (Nat.sub b a) (Nat.sub cap a) ex esz) h n) (.fail "")) (.fail "")) (.fail ""))) with ⟨l0,l1,hxv,e1⟩ | e1
 ·rw [e1] at hg
  obtain ⟨hex,e2⟩:=Ap hg
  rw [e2] at hg
  obtain ⟨b,e3,hb⟩:=Ca (ρ:=ρ) hhi hg
  rw [e3] at hg
  obtain ⟨a,e4,ha⟩:=Ca (ρ:=ρ) hlo hg
  rw [e4] at hg
  obtain ⟨h6,e6⟩:=Ap hg
  rw [e6] at hg
  obtain ⟨h7,e7⟩:=Ap hg
  have h6:=Ar.1 h6; have h7:=Ar.1 h7
  refine ⟨_,e0.trans (e1.trans (e2.trans (e3.trans (e4.trans (e6.trans e7))))),fun φ ac w hT hg=>?_⟩
  have g1:=An hx hT
  rw [hxv] at g1
  simp only [AL] at g1
  obtain ⟨p,len,cap,gx,c1,c2,c3⟩:=g1
  have hb':NI (hi.map ac.eval) b len:=by
   rcases hb φ ac hT with ⟨h1,h2⟩ | h1
   ·left
    refine ⟨h1,?_⟩
    have hn:DW hi'=false:=by
     cases hi with
     | some y=>cases h1
     | none=>simp only [Fw,Option.some.injEq] at hhi; subst hhi; rfl
    rw [hn,B2] at hex
    have:=Nat.eq_of_beq_eq_true hex
    omega
   ·exact .inr h1
  refine ⟨.slice (if cap=a then p else p.map (·.add (a*esz))) (b - a) (cap - a),?_,?_⟩
  ·simp only [execOp,ho,gx,Instr.sliceAt,Instr.slice,Sem.run_bind,run_underlying ht,Result.andThen_ok,Option.map_none]
   simp [DU (ha φ ac hT) hb' h6 (by omega:b≤cap),Bf he]
  ·simp only [AL]
   exact ⟨_,_,_,rfl,Nat.le_refl _,Nat.le_refl _,by show b - a≤cap - a; omega⟩
 have e1:=e0.trans e1
 rw [←e0,e1] at hg
 rcases CD hg with ⟨hxv,e2⟩ | ⟨p,off,len,cap,ex,esz',hxv,e2⟩
 ·rw [e2] at hg
  obtain ⟨b,e3,hb⟩:=Ca (ρ:=ρ) hhi hg
  rw [e3] at hg
  obtain ⟨a,e4,ha⟩:=Ca (ρ:=ρ) hlo hg
  rw [e4] at hg
  obtain ⟨h5,e5⟩:=Ap hg
  rw [e5] at hg
  obtain ⟨h6,e6⟩:=Ap hg
  have h5:=Nat.eq_of_beq_eq_true h5; have h6:=Nat.eq_of_beq_eq_true h6
  subst h5 h6
  refine ⟨_,e1.trans (e2.trans (e3.trans (e4.trans (e5.trans e6)))),fun φ ac w hT hg=>?_⟩
  have g1:=An hx hT
  rw [hxv] at g1
  have gx:=BS g1
  refine ⟨.slice none 0 0,?_,by simp only [AL,C8]⟩
  simp only [execOp,ho,gx,C8,Instr.sliceAt,Instr.slice,Sem.run_bind,run_underlying ht,Result.andThen_ok,Option.map_none]
  simp [DU (ha φ ac hT) (hb φ ac hT) (Nat.le_refl 0) (Nat.le_refl 0),Bf he]
 ·rw [e2] at hg
  obtain ⟨b,e3,hb⟩:=Ca (ρ:=ρ) hhi hg
  rw [e3] at hg
  obtain ⟨a,e4,ha⟩:=Ca (ρ:=ρ) hlo hg
  rw [e4] at hg
  obtain ⟨h5,e5⟩:=Ap hg
  rw [e5] at hg
  obtain ⟨h6,e6⟩:=Ap hg
  rw [e6] at hg
  obtain ⟨h7,e7⟩:=Ap hg
  have h5:=Nat.eq_of_beq_eq_true h5; have h6:=Ar.1 h6; have h7:=Ar.1 h7
  subst h5
  refine ⟨_,e1.trans (e2.trans (e3.trans (e4.trans (e5.trans (e6.trans e7))))),fun φ ac w hT hg=>?_⟩
  have g1:=An hx hT
  rw [hxv] at g1
  obtain ⟨bk,s,tot,q,cap',hp,gx,c1,c2,c3,c4⟩:=CG g1
  refine ⟨.slice (if cap'=a then some ⟨bk,q,none⟩ else some ⟨bk,q+a*esz',none⟩) (b - a) (cap' - a),?_,?_⟩
  ·simp only [execOp,ho,gx,Instr.sliceAt,Instr.slice,Sem.run_bind,run_underlying ht,Result.andThen_ok,Option.map_none]
   simp [DU (ha φ ac hT) (hb φ ac hT) h6 (Nat.le_trans h7 c2),Bf he,CR]
  ·simp only [AL]
   by_cases hca:cap'=a
   ·rw [if_pos hca]
    refine ⟨bk,s,tot,q,cap' - a,hp,rfl,by show b - a≤cap - a; omega,by show cap - a≤cap' - a; omega,fun hex=>by have:=c3 hex; show cap' - a=cap - a; omega,fun h0=>by omega⟩
   ·rw [if_neg hca]
    refine ⟨bk,s,tot,q+a*esz',cap' - a,hp,rfl,by show b - a≤cap - a; omega,by show cap - a≤cap' - a; omega,fun hex=>by have:=c3 hex; show cap' - a=cap - a; omega,fun h0=>?_⟩
    obtain ⟨c5,c6⟩:=c4 (by omega)
    refine ⟨by show q+a*esz'=s+(off+a*esz'); omega,?_⟩
    have hmul:a*esz'+(cap' - a)*esz'=cap'*esz':=by rw [←Nat.add_mul]; congr 1; omega
    omega
theorem Bq {ob:Ob} {κ:Heap->K4->R} (hg:(D0 h n ob κ).good):∃ n':K4,n'.toN=n.toN+1∧D0 h n ob κ=κ (B6 n h (some ob)) n':=by
 have e:D0 h n ob κ=n.nx fun n'=>κ (B6 n h (some ob)) n':=BB _ _ _ _
 rw [e] at hg
 rcases K4.nx_eq n (fun n'=>κ (B6 n h (some ob)) n') with ⟨w,h'⟩ | ⟨q,h1,h2⟩
 ·rw [h'] at hg; exact hg.elim
 ·exact ⟨q,h1,e.trans h2⟩
theorem Gam.at_n {φ:B9} {w:World} (g:Gam ρ B h n φ w):φ n=none:=by
 cases hx:φ n with
 | none=>rfl
 | some x=>have:=g.dom n x hx; omega
theorem Ct {φ:B9} {w:World} {n':K4} (g:Gam ρ B h n φ w) (hn:n'.toN=n.toN+1) {cs:Cs} {c:Array Value} {e:TypeId} {fr:Nat×Nat} (hl:cs.len≤c.size) (hf:UF fr c.size)
  (hc:Ef ρ φ cs fun i=>c[i]?) :
  Gam ρ B (B6 n h (some (.c cs false none))) n' (E7 φ n (w.heap.size,0,c.size)) (w.alloc (.cells c e fr)) ∧
  Fr h (B6 n h (some (.c cs false none))) φ (E7 φ n (w.heap.size,0,c.size)) n n' w (w.alloc (.cells c e fr)):=by
 refine ⟨g.alloc g.at_n (by omega) (by omega) (.c cs false none) rfl _ c.size fun φ' hle w' hw'=>?_,Fr.alloc g.at_n (by omega) (Nat.le_refl _) (by omega) _ _ _⟩
 exact ⟨c,e,fr,hw',rfl,by omega,hf,Fp hle (fun i v hv=>by rw [Nat.zero_add]; exact hc i v hv)⟩
theorem Jk (k:Nat):UF (0,0) k:=.inl rfl
theorem DJ {φ:B9} {l:List V} {xs:List Value} (h:Bs ρ φ l xs) (h1:∀ y∈xs,y.oneCell'=true):Ef ρ φ (.l l) fun i=>xs[i]?:=fun i v hv=>by
 obtain ⟨x,hx,hr⟩:=(Cc.1 h).2 i v hv
 exact ⟨x,hx,hr,h1 x (List.mem_of_getElem? hx)⟩
theorem CS {φ:B9} {p:K4} {b tot:Nat}:AL ρ (E7 φ p (b,0,tot)) (.ptr p 0) (.pointer (some ⟨b,0,none⟩)):=by
 simp only [AL]; exact ⟨b,0,tot,BT _ _ _,rfl⟩
theorem EJ {e:TypeId} {c:Array Value} (w:World):(newRow e c).run P w = .ok ⟨w.heap.size,0,none⟩ (w.alloc (.cells c e)):=rfl
theorem R9 {e:TypeId} {z:List V} (ho:o.op = .alloc e) (hz:Da P e=some z):Cy P ρ B N o (On (.l z) cf t h n) t h n:=by
 intro κ hg
 obtain ⟨n',hn,e1⟩:=Bq (show R.good (D0 h n (.c (.l z) false none) fun h' n'=>κ (.ptr n 0) h' n') from hg)
 refine ⟨_,_,_,e1,.value fun φ a w hT g=>?_⟩
 unfold Da at hz
 cases hi:(P.info? e).bind (·.zero) with
 | none=>rw [hi] at hz; cases hz
 | some zv =>
  rw [hi] at hz
  obtain ⟨hl,h1⟩:=Ep (ρ:=ρ) (show Hc zv.cells.toList=some z from hz) φ
  have hc:=DJ hl h1
  obtain ⟨g1,g2⟩:=Ct g hn (e:=e) (fr:=(0,0)) (c:=zv.cells) (by have:=Be hl; simp only [Cs.len]; simp at this; omega) (Jk _) (cs:=.l z) (fun i v hv=>by simpa using hc i v hv)
  refine ⟨_,.pointer (some ⟨w.heap.size,0,none⟩),_,?_,g2,g1,CS⟩
  simp [execOp,ho,Instr.alloc,D7 hi,newVar,EJ]
theorem QK {e:TypeId} {x:Operand} {x':Opd} (hρ:Bo ρ) (ho:o.op = .box e x) (hx:AX N x=some x'):Cy P ρ B N o (HU x' cf t h n) t h n:=by
 intro κ hg
 have e1:HU x' cf t h n κ=DP (ev x' t) fun l=>D0 h n (.c (.l l) false none) fun h' n'=>κ (.ptr n 0) h' n':=by simp only [HU,AR]
 rw [e1] at hg
 obtain ⟨hc,e2⟩:=F9 hg
 rw [e2] at hg
 obtain ⟨n',hn,e3⟩:=Bq hg
 refine ⟨_,_,_,e1.trans (e2.trans e3),.value fun φ a w hT g=>?_⟩
 obtain ⟨hl,h1⟩:=GW hρ hc (An hx hT)
 have hcs:=DJ hl h1
 obtain ⟨g1,g2⟩:=Ct g hn (e:=e) (fr:=(0,0)) (c:=(a.eval x).cells) (by have:=Be hl; simp only [Cs.len]; simp at this; omega) (Jk _) (cs:=.l (ev x' t).cl) (fun i v hv=>by simpa using hcs i v hv)
 refine ⟨_,.pointer (some ⟨w.heap.size,0,none⟩),_,?_,g2,g1,CS⟩
 simp [execOp,ho,Instr.box,newVar,EJ]
theorem Nt {ty:TypeId} (ho:o.op = .makeMap ty none):Cy P ρ B N o (HG cf t h n) t h n:=by
 intro κ hg
 obtain ⟨n',hn,e1⟩:=Bq (show R.good (D0 h n (.m [] [] 0) fun h' n'=>κ (.map n) h' n') from hg)
 refine ⟨_,_,_,e1,.value fun φ a w hT g=>?_⟩
 refine ⟨_,.map (some w.heap.size),w.alloc (.map #[] 0),by simp [execOp,ho,Instr.makeMap,run_newObj],Fr.alloc g.at_n (by omega) (Nat.le_refl _) (by omega) _ _ 0,?_,?_⟩
 ·exact g.alloc g.at_n (by omega) (by omega) (.m [] [] 0) rfl _ 0 fun φ' hle w' hw'=>⟨#[],hw',rfl,rfl⟩
 ·simp only [AL]; exact ⟨w.heap.size,0,0,BT _ _ _,rfl⟩
theorem Rz {src dst e:TypeId} {x:Operand} {x':Opd} (ho:o.op = .convert src dst x) (hx:AX N x=some x') (hs:P.underlying src=some .string) (hd:P.underlying dst=some (.slice e)) (he:P.underlying e=some (.int .u8)) :
  Cy P ρ B N o (Ij x' cf t h n) t h n:=by
 intro κ hg
 have e1:Ij x' cf t h n κ=Bh (ev x' t) fun m c=>D0 h n (.c (.b m c) false none) fun h' n'=>κ (.sl n 0 m m false 1) h' n':=by simp only [Ij,AR]
 rw [e1] at hg
 obtain ⟨m,c,hxv,e2⟩:=BV hg
 rw [e2] at hg
 obtain ⟨n',hn,e3⟩:=Bq hg
 refine ⟨_,_,_,e1.trans (e2.trans e3),.value fun φ a w hT g=>?_⟩
 have g1:=An hx hT
 rw [hxv] at g1
 obtain ⟨s,gx,hsz,hc⟩:=Ci g1
 clear g1
 subst hsz hc
 -- the capacity is drawn
 obtain ⟨cap,w1,hcap,hrun,hw1⟩:∃ cap w1,s.size≤cap∧(choose (.appendCap s.size 0 e)).run P w = .ok cap w1∧w1=w.drew:=by
  refine ⟨_,_,?_,by rw [run_choose]; simp only [Question.forced,Bool.false_eq_true,if_false]; rfl,rfl⟩
  simp only [Question.cut]; omega
 subst hw1
 let cells:Array Value:=s.data.map (fun b=>Value.int .u8 b.toNat)++Array.replicate (cap - s.size) (.int .u8 0)
 have hsize:cells.size=cap:=by simp [cells]; omega
 have hcs:Ef ρ φ (.b s.size (B5 s.data.toList)) fun i=>cells[i]?:=fun i v hv=>by
  have hi:i<s.size:=Cs.lt_of_at hv
  rw [Cs.b_pos hi] at hv
  have hi':i<s.data.toList.length:=by rw [BH]; exact hi
  rw [HK _ _ hi'] at hv
  cases hv
  have hlt:=s.data.toList[i].toNat_lt
  refine ⟨.int .u8 (s.data.toList[i].toNat:Nat),?_,?_,rfl⟩
  ·have hi2:i<s.data.size:=hi
   show (s.data.map (fun b=>Value.int .u8 b.toNat)++Array.replicate (cap - s.size) (.int .u8 0))[i]? = _
   rw [Array.getElem?_append_left (by simpa using hi2),Array.getElem?_map,Array.getElem?_eq_getElem hi2]
   simp
  ·simp only [AL]
   exact ⟨by simp [Mk]; exact hlt,by rw [AI (by simp [Hk]; exact hlt)]⟩
 obtain ⟨g2,g3⟩:=Ct (g.drew) hn (e:=e) (fr:=(cap,cap+1)) (c:=cells) (by simp only [Cs.len]; omega) (.inr (by rw [hsize]; exact Nat.le_refl _)) hcs
 refine ⟨_,.slice (some ⟨w.heap.size,0,none⟩) s.size cap,_,?_,Fr.trans Fr.drew g3,g2,?_⟩
 ·simp only [execOp,ho,gx,convert,Sem.run_bind,run_underlying hs,run_underlying hd,run_underlying he,Result.andThen_ok,Conv.stringToBytes,hrun]
  have hrow:(newRow e (Array.map (fun b=>Value.int IntKind.u8 ↑b.toNat) s.data++Array.replicate (cap - s.size) (Value.int IntKind.u8 0))).run P w.drew = .ok ⟨w.heap.size,0,none⟩ (w.drew.alloc (.cells cells e)):=rfl
  simp only [hrow,Result.andThen_ok]
  have hsh:(w.drew.alloc (.cells cells e)).shape? w.heap.size=some (e,cap):=by
   have:(w.drew.alloc (.cells cells e)).heap[w.heap.size]? = some (.cells cells e):=by show (w.heap.push _)[w.heap.size]? = _; simp
   unfold World.shape?; rw [this]; simp [hsize]
  have hfz:(w.drew.alloc (.cells cells e)).freeze { block:=w.heap.size,off:=cap } 1=w.drew.alloc (.cells cells e (cap,cap+1)):=by
   exact (Gh (show (w.drew.alloc (.cells cells e)).heap[w.heap.size]? = some (.cells cells e (0,0)) from Ii (w:=w.drew))).trans (JX (w:=w.drew))
  simp only [markStringish,Sem.run_bind,run_shape,hsh,Result.andThen_ok,run_freeze,hfz,Sem.run_pure]
 ·simp only [AL]
  refine ⟨w.heap.size,0,cells.size,0,cap,BT _ _ _,rfl,Nat.le_refl _,hcap,(fun h=>by cases h),(fun _=>⟨rfl,by rw [hsize]; omega⟩)⟩
end
end Go.Ev

namespace Go.Ev
set_option linter.unusedVariables false
section
variable {P:Program} {ρ:Env} {B N:Nat} {o:Oper} {cf:CF} {t:Regs} {h:Heap} {n:K4}
theorem CP {p:K4} {κ:Cs->Bool->Option K4->R} (hg:(It p h κ).good):∃ cs sup prev,AM p h=some (.c cs sup prev)∧It p h κ=κ cs sup prev:=by
 have e:It p h κ=@Option.rec Ob (fun _=>R) (.fail "") (fun o=>@Ob.rec (fun _=>R) κ (C2 "") (FF "") (.fail "") (AV "") o) (AM p h):=Ds _ _ _
 rw [e] at hg
 cases hx:AM p h with
 | none=>rw [hx] at hg; exact hg.elim
 | some ob =>
  rw [hx] at hg e
  cases ob with
  | c cs sup prev=>exact ⟨cs,sup,prev,rfl,e⟩
  | m _ _ _=>exact hg.elim
  | it _ _ _ _=>exact hg.elim
  | it0=>exact hg.elim
  | lp _ _=>exact hg.elim
theorem E3 {p:K4} {κ:List (V×V)->List Nat->Nat->R} (hg:(OE p h κ).good):∃ es bs c,AM p h=some (.m es bs c)∧OE p h κ=κ es bs c:=by
 have e:OE p h κ=@Option.rec Ob (fun _=>R) (.fail "") (fun o=>@Ob.rec (fun _=>R) (C2 "") κ (FF "") (.fail "") (AV "") o) (AM p h):=Ds _ _ _
 rw [e] at hg
 cases hx:AM p h with
 | none=>rw [hx] at hg; exact hg.elim
 | some ob =>
  rw [hx] at hg e
  cases ob with
  | c cs sup prev=>exact hg.elim
  | m es bs c=>exact ⟨es,bs,c,rfl,e⟩
  | it _ _ _ _=>exact hg.elim
  | it0=>exact hg.elim
  | lp _ _=>exact hg.elim
theorem Tv {ρ:Env} {φ:B9} {z:Int} (z1 : -9223372036854775808≤z) (z2:z<9223372036854775808):AL ρ φ (.oth (.iv .i64 0 18446744073709551615)) (.int .i64 z):=by
 simp only [AL]
 by_cases h0:0≤z
 ·refine ⟨z.toNat,Nat.zero_le _,by omega,by simp only [Mk]; omega,?_⟩
  rw [AI (by simp only [Hk]; omega)]; congr 1; omega
 ·refine ⟨(z+18446744073709551616).toNat,Nat.zero_le _,by omega,by simp only [Mk]; omega,?_⟩
  rw [Dr (by simp only [Hk]; omega)]; congr 1; simp only [Mk]; omega
theorem Sz {ρ:Env} {i j:Nat} {κ:V->R} (hg:(Wu i j κ).good) (h5:¬ i≤73786976294838206463):∃ v,Wu i j κ=κ v ∧ ∀ (φ:B9) y,R5 ρ i j y->AL ρ φ v y:=by
 have key:∀ y,R5 ρ i j y->∃ z:Int,y = .int .i64 z ∧ -9223372036854775808≤z∧z<9223372036854775808∧(j<Xx i->z.natAbs % UD i=Xy i j):=fun y hy=>by
  rcases hy with ⟨h,_⟩ | ⟨_,h,_⟩ | ⟨_,h,_⟩ | ⟨_,h,_⟩ | ⟨_,z,rfl,z1,z2,z3⟩
  ·omega
  ·omega
  ·omega
  ·omega
  ·exact ⟨z,rfl,z1,z2,z3⟩
 unfold Wu at hg ⊢
 cases h1:Nat.ble (Nat.succ j) (Xx i) with
 | false =>
  refine ⟨_,by rw [B2],fun φ y hy=>?_⟩
  obtain ⟨z,rfl,z1,z2,_⟩:=key y hy
  exact Tv z1 z2
 | true =>
  rw [h1,AZ,Ai] at hg
  obtain ⟨hm,e⟩:=Ap hg
  have hm:=Ar.1 hm
  refine ⟨.oth (.rs (UD i) (Xy i j)),by rw [AZ,Ai,e,Ai],fun φ y hy=>?_⟩
  obtain ⟨z,rfl,z1,z2,z3⟩:=key y hy
  have z3:=z3 (Ar.1 h1)
  simp only [AL]
  exact ⟨z,rfl,z1,z2,.inl ⟨by omega,by rw [Nat.mod_eq_of_lt (show UD i<18446744073709551616 by omega)]; exact z3⟩,fun h=>by omega⟩
theorem Oc {ty:TypeId} {x:Operand} {x':Opd} (ho:o.op = .load ty x) (hx:AX N x=some x') (ha:Ki P ty=some false):Bl P ρ B N o (QU x' cf t h n) t h n:=by
 intro κ hg
 have e1:QU x' cf t h n κ=Pw (ev x' t) (fun p off=>It p h fun cs _ _=>FG cs off fun v=>κ v h n) (fun o=>QY o (fun i j m=>br (Nat.ble 1 m) (UN i j fun v=>κ v h n) (.fail "")) (.fail "")):=by simp only [QU,AR]
 rw [e1] at hg
 rcases Kb hg with ⟨p,off,hxv,e2⟩ | ⟨oo,hxv,e2⟩
 rotate_left
 ·rw [e2] at hg
  cases oo with
  | ap i j m =>
   have hg':R.good (br (Nat.ble 1 m) (UN i j fun v=>κ v h n) (.fail "")):=hg
   obtain ⟨h1,e3⟩:=Ap hg'
   have h1:=Ar.1 h1
   have key:∃ v,UN i j (fun v=>κ v h n)=κ v h n ∧ ∀ (φ:B9) y,R5 ρ i j y->AL ρ φ v y:=by
    unfold UN
    cases hi:Nat.beq i 0 with
    | true =>
     have hi:=Nat.eq_of_beq_eq_true hi
     refine ⟨_,by rw [AZ],fun φ y hy=>?_⟩
     rcases hy with ⟨_,b,rfl⟩ | ⟨h,_⟩ | ⟨h,_⟩ | ⟨h,_⟩ | ⟨h,_⟩
     ·exact Eb b
     ·omega
     ·omega
     ·omega
     ·omega
    | false =>
     have hi0:i≠0:=fun h=>by subst h; cases hi
     rw [B2]
     cases h2f:Nat.ble i 18446744073709551615 with
     | true =>
      have h2:=Ar.1 h2f
      refine ⟨.oth (.sy .i64 (i+j)),by first | (rw [AZ,Ai]; rfl) | (rw [Ai]; rfl) | rw [Ai],fun φ y hy=>?_⟩
      rcases hy with ⟨h,_⟩ | ⟨_,_,h2,r,h3,h4⟩ | ⟨h,_⟩ | ⟨h,_⟩ | ⟨h,_⟩
      ·exact absurd h hi0
      ·simp only [AL]; exact ⟨h2,r,h3,h4⟩
      ·omega
      ·omega
      ·omega
     | false =>
      have h2:¬ i≤18446744073709551615:=fun h=>by rw [Ar.2 h] at h2f; cases h2f
      rw [B2]
      cases h3f:Nat.ble i 36893488147419103231 with
      | true =>
       have h3:=Ar.1 h3f
       rw [AZ]
       cases h4:Nat.ble (Nat.succ j) (Nat.div (Nat.sub i 18446744073709551616) 4294967296) with
       | true =>
        have h4:=Ar.1 h4
        rw [AZ]
        refine ⟨.bool (PM i j),by cases PM i j <;> rfl,fun φ y hy=>?_⟩
        rcases hy with ⟨h,_⟩ | ⟨_,h,_⟩ | ⟨_,_,b,rfl,hb⟩ | ⟨h,_⟩ | ⟨h,_⟩
        ·omega
        ·omega
        ·rw [hb h4]; simp only [AL]
        ·omega
        ·omega
       | false =>
        rw [B2]
        refine ⟨_,rfl,fun φ y hy=>?_⟩
        rcases hy with ⟨h,_⟩ | ⟨_,h,_⟩ | ⟨_,_,b,rfl,hb⟩ | ⟨h,_⟩ | ⟨h,_⟩
        ·omega
        ·omega
        ·exact Eb b
        ·omega
        ·omega
      | false =>
       have h3:¬ i≤36893488147419103231:=fun h=>by rw [Ar.2 h] at h3f; cases h3f
       rw [B2]
       cases h5f:Nat.ble i 73786976294838206463 with
       | true =>
        have h5:=Ar.1 h5f
        rw [AZ]
        refine ⟨_,rfl,fun φ y hy=>?_⟩
        rcases hy with ⟨h,_⟩ | ⟨_,h,_⟩ | ⟨_,h,_⟩ | ⟨_,_,r,hr,rfl⟩ | ⟨h,_⟩
        ·omega
        ·omega
        ·omega
        ·simp only [AL]; exact ⟨r,Nat.zero_le _,by simp only [Mk] at hr; omega,hr,rfl⟩
        ·omega
       | false =>
        have h5:¬ i≤73786976294838206463:=fun h=>by rw [Ar.2 h] at h5f; cases h5f
        rw [B2]
        have hg2:R.good (Wu i j fun v=>κ v h n):=by
         have hg3:=hg'
         rw [e3] at hg3
         unfold UN at hg3
         rw [show Nat.beq i 0=false from hi,B2,h2f,B2,h3f,B2,h5f,B2] at hg3
         exact hg3
        exact Sz hg2 h5
   obtain ⟨v,e4,hv⟩:=key
   refine ⟨v,e1.trans (e2.trans (e3.trans e4)),fun φ a w hT g=>?_⟩
   have g1:=An hx hT
   rw [hxv] at g1
   simp only [AL] at g1
   obtain ⟨b,q,c,e,fr,gx,c1,c2⟩:=g1
   obtain ⟨y,y1,y2⟩:=c2 0 (by omega)
   refine ⟨y,?_,hv φ y y2⟩
   have hc:=(g.glob b c e fr c1).2
   simp [execOp,ho,gx,Instr.loadAt,Instr.sureAddr,loadVar,CC ha,GL hc (show c[q]? = some y from y1)]
  | _=>exact hg.elim
 rw [e2] at hg
 obtain ⟨cs,sup,prev,hp,e3⟩:=CP hg
 rw [e3] at hg
 obtain ⟨v,hv,e4⟩:=GK hg
 refine ⟨v,e1.trans (e2.trans (e3.trans e4)),fun φ a w hT g=>?_⟩
 have g1:=An hx hT
 rw [hxv] at g1
 obtain ⟨b,s,tot,hφ,gx⟩:=CJ g1
 obtain ⟨c,e,fr,k1,k2,k3,k4,k5⟩:=g.obj p _ b s tot hp hφ
 obtain ⟨X,hX,hr,_⟩:=k5 off v hv
 refine ⟨X,?_,hr⟩
 simp [execOp,ho,gx,Instr.loadAt,Instr.sureAddr,loadVar,CC ha,GL k1 hX]
theorem LK {ty:TypeId} {m:Nat} {x:Operand} {x':Opd} (ho:o.op = .load ty x) (hx:AX N x=some x') (ha:Ki P ty=some true) (hm:Bv P ty=some m):Bl P ρ B N o (M4 m x' cf t h n) t h n:=by
 intro κ hg
 have e1:M4 m x' cf t h n κ=IB (ev x' t) fun p off=>It p h fun cs _ _=>BW cs off m fun y=>Ed y fun l=>κ (.agg l) h n:=by simp only [M4,AR]
 rw [e1] at hg
 obtain ⟨p,off,hxv,e2⟩:=CW hg
 rw [e2] at hg
 obtain ⟨cs,sup,prev,hp,e3⟩:=CP hg
 rw [e3] at hg
 obtain ⟨hle,y,hyl,hya,e4⟩:=Cu hg
 obtain ⟨l,e5,hll,hla⟩:=Fo y fun l=>κ (.agg l) h n
 refine ⟨.agg l,e1.trans (e2.trans (e3.trans (e4.trans e5))),fun φ a w hT g=>?_⟩
 have g1:=An hx hT
 rw [hxv] at g1
 obtain ⟨b,s,tot,hφ,gx⟩:=CJ g1
 obtain ⟨c,e,fr,k1,k2,k3,k4,k5⟩:=g.obj p _ b s tot hp hφ
 obtain ⟨vs,q1,q2,q3,q4⟩:=HY (Gx k5 hyl hya)
 have hrun:=Fi (P:=P) (off:=s+off) vs k1 (fun j v hj=>by have:=q2 j v hj; rwa [←Nat.add_assoc] at this)
 rw [q1,hyl] at hrun
 refine ⟨.agg vs.toArray,?_,?_⟩
 ·simp [execOp,ho,gx,Instr.loadAt,Instr.sureAddr,loadVar,CC ha,Bf hm,hrun]
 ·simp only [AL]
  exact ⟨_,rfl,q4 l (by rw [hll]) hla,q3⟩
theorem EV {p:K4} {off:Nat} {y:Cs} {κ:Heap->R} (hg:(E9 h p off y κ).good):∃ cs prev z,AM p h=some (.c cs false prev)∧PL cs off y z ∧
  E9 h p off y κ=κ (B6 p (FY prev h) (some (.c z false none))):=by
 obtain ⟨cs,sup,prev,hp,e1⟩:=CP (show R.good (It p h _) from hg)
 have e1:E9 h p off y κ=_:=e1
 rw [e1] at hg
 obtain ⟨h2,e2⟩:=Fu hg
 subst h2
 rw [e2] at hg
 obtain ⟨z,hz,e3⟩:=Rm hg
 refine ⟨cs,prev,z,hp,hz,e1.trans (e2.trans (e3.trans ?_))⟩
 rw [KK,BB]
theorem EY {φ:B9} {w:World} (g:Gam ρ B h n φ w) {p:K4} {off:Nat} {cs y z:Cs} {prev:Option K4} {b s tot:Nat} (hp:AM p h=some (.c cs false prev)) (hφ:φ p=some (b,s,tot)) (hz:PL cs off y z)
  {vs:List Value} (hl:vs.length=y.len) (hv:∀ i v,y.at i=some v->∃ x,vs[i]? = some x∧AL ρ φ v x) (h1:∀ x∈vs,x.oneCell'=true) :
  ∃ w',(storeCells ⟨b,s+off,none⟩ vs).run P w = .ok () w'∧Gam ρ B (B6 p (FY prev h) (some (.c z false none))) n φ w'∧Fr h (B6 p (FY prev h) (some (.c z false none))) φ φ n n w w':=by
 obtain ⟨c,e,fr,k1,k2,k3,k4,k5⟩:=g.obj p _ b s tot hp hφ
 obtain ⟨z1,z2,z3,z4,z5⟩:=hz
 obtain ⟨c',q1,q2,q3,q4⟩:=GA (P:=P) vs w b (s+off) 0 c e fr k1 (by omega) (by rw [k2]; exact k4) h1
 have hb:=(g.blk p b s tot hφ).2
 refine ⟨_,q4,g.write (o:=.c cs false prev) (o':=.c z false none) hp hφ rfl rfl ⟨c',e,fr,Dm hb,by rw [q1,k2],by rw [z2]; exact k3,k4,fun i v hi=>?_⟩,Fr.write (o:=.c cs false prev) hp hφ⟩
 by_cases ha:i<off
 ·rw [z3 i ha] at hi
  obtain ⟨x,hx,hr⟩:=k5 i v hi
  exact ⟨x,by show c'[s+i]? = some x; rw [q2 (s+i) (by omega)]; exact hx,hr⟩
 ·by_cases hb':i<off+y.len
  ·obtain ⟨j,rfl⟩:∃ j,i=off+j:=⟨i - off,by omega⟩
   rw [z4 j (by omega)] at hi
   obtain ⟨x,hx,hr⟩:=hv j v hi
   refine ⟨x,?_,hr,h1 x (List.mem_of_getElem? hx)⟩
   show c'[s+(off+j)]? = some x
   rw [←q3 j x hx]; congr 1; omega
  ·rw [z5 i (by omega)] at hi
   obtain ⟨x,hx,hr⟩:=k5 i v hi
   exact ⟨x,by show c'[s+i]? = some x; rw [q2 (s+i) (by omega)]; exact hx,hr⟩
theorem SZ {ty:TypeId} {m:Nat} {x y:Operand} {x' y':Opd} (hρ:Bo ρ) (ho:o.op = .store ty x y) (hx:AX N x=some x') (hy:AX N y=some y') (hm:Bv P ty=some m) :
  Cy P ρ B N o (Rh m x' y' cf t h n) t h n:=by
 intro κ hg
 have e1:Rh m x' y' cf t h n κ=IB (ev x' t) fun p off=>DP (ev y' t) fun l=>Gu l fun k=>br (Nat.beq k m) (E9 h p off (.l l) fun h'=>κ Cg h' n) (.fail ""):=by simp only [Rh,AR]
 rw [e1] at hg
 obtain ⟨p,off,hxv,e2⟩:=CW hg
 rw [e2] at hg
 obtain ⟨hc,e3⟩:=F9 hg
 rw [e3,Dd] at hg
 obtain ⟨h4,e4⟩:=Ap hg
 have h4:=Nat.eq_of_beq_eq_true h4
 rw [e4] at hg
 obtain ⟨cs,prev,z,hp,hz,e5⟩:=EV hg
 refine ⟨Cg,_,n,e1.trans (e2.trans (e3.trans ((Dd _ _).trans (e4.trans e5)))),.skip fun φ a w hT g=>?_⟩
 have g1:=An hx hT
 rw [hxv] at g1
 obtain ⟨b,s,tot,hφ,gx⟩:=CJ g1
 obtain ⟨hl,h1⟩:=GW hρ hc (An hy hT)
 have hlen:=Be hl
 obtain ⟨w',q1,q2,q3⟩:=EY (P:=P) g hp hφ hz (vs:=(a.eval y).cells.toList) (by rw [hlen]; rfl) (fun i v hi=>(Cc.1 hl).2 i v hi) h1
 refine ⟨φ,w',?_,q3,q2⟩
 have hsz:(a.eval y).cells.size=m:=by rw [←h4,←hlen]; simp
 simp [execOp,ho,gx,Instr.storeAt,Instr.sureAddr,storeVar,Bf hm,hsz,q1]
theorem Li {ty e:TypeId} {m esz:Nat} {x:Operand} {lo hi:Option Operand} {x':Opd} {lo' hi':Option Opd} (ho:o.op = .slice ty x lo hi none) (hx:AX N x=some x') (hlo:Fw N lo=some lo') (hhi:Fw N hi=some hi')
  (ht:P.underlying ty=some (.array m e)) (he:Bv P e=some esz):Bl P ρ B N o (HO m esz x' lo' hi' cf t h n) t h n:=by
 intro κ hg
 have e1:HO m esz x' lo' hi' cf t h n κ=IB (ev x' t) fun p off=>It p h fun cs _ _=>br (Nat.ble (Nat.add off (Nat.mul m esz)) cs.len) (Cp hi' t m fun b=>Cp lo' t 0 fun a=>br (Nat.ble a b) (br (Nat.ble b m) (κ (.sl p (Nat.add off (Nat.mul a esz)) (Nat.sub b a) (Nat.sub m a) true esz) h n) (.fail "")) (.fail "")) (.fail ""):=by
  simp only [HO,AR,Ai,Tl]
 rw [e1] at hg
 obtain ⟨p,off,hxv,e2⟩:=CW hg
 rw [e2] at hg
 obtain ⟨cs,sup,prev,hp,e3⟩:=CP hg
 rw [e3] at hg
 obtain ⟨h4,e4⟩:=Ap hg
 have h4:=Ar.1 h4
 simp only [Nat.add_eq,Nat.mul_eq] at h4
 rw [e4] at hg
 obtain ⟨b,e5,hb⟩:=Ca (ρ:=ρ) hhi hg
 rw [e5] at hg
 obtain ⟨a,e6,ha⟩:=Ca (ρ:=ρ) hlo hg
 rw [e6] at hg
 obtain ⟨h7,e7⟩:=Ap hg
 rw [e7] at hg
 obtain ⟨h8,e8⟩:=Ap hg
 have h7:=Ar.1 h7; have h8:=Ar.1 h8
 refine ⟨_,e1.trans (e2.trans (e3.trans (e4.trans (e5.trans (e6.trans (e7.trans e8)))))),fun φ ac w hT g=>?_⟩
 have g1:=An hx hT
 rw [hxv] at g1
 obtain ⟨bk,s,tot,hφ,gx⟩:=CJ g1
 obtain ⟨c,e',fr,k1,k2,k3,k4,k5⟩:=g.obj p _ bk s tot hp hφ
 refine ⟨.slice (if m=a then some ⟨bk,s+off,none⟩ else some ⟨bk,s+off+a*esz,none⟩) (b - a) (m - a),?_,?_⟩
 ·have hsw:(if m=a then some (⟨bk,s+off,none⟩:Addr) else some ⟨bk,s+off+a*esz,none⟩)=some (if m=a then ⟨bk,s+off,none⟩ else ⟨bk,s+off+a*esz,none⟩):=by split <;> rfl
  rw [hsw]
  simp only [execOp,ho,gx,Instr.sliceAt,Instr.sureAddr,Sem.run_bind,run_underlying ht,Result.andThen_ok,Option.map_none,Sem.run_pure]
  simp [DU (ha φ ac hT) (hb φ ac hT) h7 h8,Bf he,CR]
 ·simp only [AL]
  have hmul:m - a=0∨a*esz+(m - a)*esz=m*esz:=by
   rcases Nat.lt_or_ge a m with h' | h'
   ·right; rw [←Nat.add_mul]; congr 1; omega
   ·left; omega
  by_cases hca:m=a
  ·rw [if_pos hca]
   refine ⟨bk,s,tot,s+off,m - a,hφ,rfl,by show b - a≤m - a; omega,Nat.le_refl _,fun _=>rfl,fun h0=>by omega⟩
  ·rw [if_neg hca]
   refine ⟨bk,s,tot,s+off+a*esz,m - a,hφ,rfl,by show b - a≤m - a; omega,Nat.le_refl _,fun _=>rfl,fun h0=>⟨by show s+off+a*esz=s+(off+a*esz); omega,?_⟩⟩
   rcases hmul with h' | h'
   ·omega
   ·omega
theorem Hv {xs:List V} {κ:Nat->Nat->R} {why:String} (hg:(CL xs κ (.fail why)).good):∃ m c,CL xs κ (.fail why)=κ m c∧(Cs.b m c).len=xs.length∧(∀ i,(Cs.b m c).at i=xs[i]?)∧c<256 ^ m:=by
 rcases KG xs κ (.fail why) with e | e
 ·rw [e] at hg; exact hg.elim
 ·exact e
theorem MY {φ:B9} {m c:Nat} {vs:List Value} (hl:vs.length=m) (hv:∀ i v,(Cs.b m c).at i=some v->∃ x,vs[i]? = some x∧AL ρ φ v x) :
  ∃ bs:List UInt8,vs=bs.map (fun b=>Value.int .u8 b.toNat)∧bs.length=m∧B5 bs=c % 256 ^ m:=by
 induction m generalizing c vs with
 | zero =>
  have:vs=[]:=List.eq_nil_of_length_eq_zero hl
  subst this
  exact ⟨[],rfl,rfl,by simp [B5,Nat.mod_one]⟩
 | succ m ih =>
  cases vs with
  | nil=>simp at hl
  | cons v vs =>
   obtain ⟨x,hx,hr⟩:=hv 0 _ (Cs.b_pos (by omega))
   simp at hx; subst hx
   obtain ⟨hlt,rfl⟩:=Cb hr
   obtain ⟨bs,rfl,hbl,hbe⟩:=ih (c:=c / 256) (vs:=vs) (by simpa using hl) (fun i u hu=>by
    have hi:=Cs.lt_of_at hu
    simp only [Cs.len] at hi
    rw [Cs.b_pos hi] at hu
    have:=hv (i+1) u (by rw [Cs.b_pos (by omega),Nat.pow_succ,Nat.mul_comm,←Nat.div_div_eq_div_mul]; exact hu)
    simpa using this)
   have hc:c / 256 ^ 0 % 256=c % 256:=by simp
   rw [hc] at hlt ⊢
   refine ⟨UInt8.ofNat (c % 256)::bs,?_,by simp [hbl],?_⟩
   ·have:(UInt8.ofNat (c % 256)).toNat=c % 256:=by simp
    simp only [List.map_cons,List.cons.injEq,and_true,this]
    rw [AI (by simp [Hk]; omega)]
   ·have:(UInt8.ofNat (c % 256)).toNat=c % 256:=by simp
    simp only [B5,this,hbe]
    rw [Nat.pow_succ,Nat.mul_comm (256 ^ m) 256,Nat.mod_mul]
theorem run_bytesToString {a:Addr} {len cap:Nat} {w:World} (bs:List UInt8) (hl:bs.length=len) (h:(loadCells a len).run P w = .ok (bs.map (fun b=>Value.int .u8 b.toNat)).toArray w) :
  (Conv.bytesToString (.slice (some a) len cap)).run P w = .ok (.string ⟨bs.toArray⟩) w:=by
 have h':=Go.run_bytesToString w a len cap (bs.map fun b=>(b.toNat:Int)) (by rw [List.map_map]; exact h)
 rw [h']
 have key:∀ (bs:List UInt8) (s:ByteArray),(bs.map fun b=>(b.toNat:Int)).foldl (fun r n=>r.push (UInt8.ofNat n.toNat)) s=⟨s.data++bs.toArray⟩:=by
  intro bs
  induction bs with
  | nil=>intro s; simp
  | cons b bs ih =>
   intro s
   rw [List.map_cons,List.foldl_cons,ih]
   simp [ByteArray.push]
 rw [key]; simp
theorem M6 {src dst e:TypeId} {x:Operand} {x':Opd} (ho:o.op = .convert src dst x) (hx:AX N x=some x') (hs:P.underlying src=some (.slice e)) (hd:P.underlying dst=some .string) (he:P.underlying e=some (.int .u8)) :
  Bl P ρ B N o (IX x' cf t h n) t h n:=by
 intro κ hg
 have e1:IX x' cf t h n κ=CU (ev x' t) (κ (.str 0 0) h n) (fun p off len cap ex esz=>br (Nat.beq esz 1) (It p h fun cs _ _=>BW cs off len fun y=>Ed y fun l=>CL l (fun m c=>κ (.str m c) h n) (.fail "")) (.fail "")):=by
  simp only [IX,AR]
 rw [e1] at hg
 rcases CD hg with ⟨hxv,e2⟩ | ⟨p,off,len,cap,ex,esz,hxv,e2⟩
 ·refine ⟨_,e1.trans e2,fun φ a w hT g=>?_⟩
  have g1:=An hx hT
  rw [hxv] at g1
  have gx:=BS g1
  refine ⟨.string .empty,?_,PW .empty ρ φ⟩
  simp [execOp,ho,gx,C8,convert,run_underlying hs,run_underlying hd,run_underlying he,Conv.bytesToString]
 ·rw [e2] at hg
  obtain ⟨h3,e3⟩:=Ap hg
  have h3:=Nat.eq_of_beq_eq_true h3
  subst h3
  rw [e3] at hg
  obtain ⟨cs,sup,prev,hp,e4⟩:=CP hg
  rw [e4] at hg
  obtain ⟨hle,y,hyl,hya,e5⟩:=Cu hg
  rw [e5] at hg
  obtain ⟨l,e6,hll,hla⟩:=Fo y fun l=>CL l (fun m c=>κ (.str m c) h n) (.fail "")
  rw [e6] at hg
  obtain ⟨m,c,e7,hml,hma,hcan⟩:=Hv hg
  ·refine ⟨_,e1.trans (e2.trans (e3.trans (e4.trans (e5.trans (e6.trans e7))))),fun φ a w hT g=>?_⟩
   have g1:=An hx hT
   rw [hxv] at g1
   obtain ⟨b,s,tot,q,cap',hφ,gx,c1,c2,c3,c4⟩:=CG g1
   obtain ⟨cc,e',fr,k1,k2,k3,k4,k5⟩:=g.obj p _ b s tot hp hφ
   obtain ⟨vs,q1,q2,q3,q4⟩:=HY (Gx k5 hyl hya)
   have hm:m=len:=by simp only [Cs.len] at hml; rw [hml,hll,hyl]
   subst hm
   obtain ⟨bs,hbs,hbl,hbe⟩:=MY (ρ:=ρ) (φ:=φ) (m:=m) (c:=c) (vs:=vs) (by rw [q1,hyl]) (fun i v hv=>by
    rw [hma i,hla i] at hv
    exact (Cc.1 (q4 l hll hla)).2 i v (by rw [hla i]; exact hv))
   rw [Nat.mod_eq_of_lt hcan] at hbe
   refine ⟨.string ⟨bs.toArray⟩,?_,?_⟩
   ·have hload:(loadCells ⟨b,q,none⟩ m).run P w = .ok (bs.map (fun b=>Value.int .u8 b.toNat)).toArray w:=by
     rcases Nat.eq_zero_or_pos m with h0 | h0
     ·subst h0
      have:bs=[]:=List.eq_nil_of_length_eq_zero hbl
      subst this; rfl
     ·obtain ⟨c5,c6⟩:=c4 (by omega)
      have hrun:=Fi (P:=P) (off:=s+off) vs k1 (fun j v hj=>by have:=q2 j v hj; rwa [←Nat.add_assoc] at this)
      rw [q1,hyl,hbs] at hrun
      rw [c5]; exact hrun
    simp only [execOp,ho,gx,convert,Sem.run_bind,run_underlying hs,run_underlying hd,run_underlying he,Result.andThen_ok,run_bytesToString bs hbl hload,Sem.run_pure]
   ·simp only [AL]
    exact ⟨⟨bs.toArray⟩,rfl,by simp [ByteArray.size,hbl],by simpa using hbe⟩
end
end Go.Ev

namespace Go.Ev
set_option linter.unusedVariables false
section
variable {P:Program} {ρ:Env} {B N:Nat} {o:Oper} {cf:CF} {t:Regs} {h:Heap} {n:K4}
theorem EU {φ:B9} {es:List (V×V)}:∀ {l:List MapEntry},FJ ρ φ es l->l.length=es.length:=by
 induction es with
 | nil=>intro l h; have h:l=[]:=h; subst h; rfl
 | cons e es ih=>rintro l ⟨y,ys,rfl,_,_,h⟩; simp [ih h]
theorem KA {φ:B9} {es:List (V×V)}:∀ {l:List MapEntry} {i:Nat} {e:V×V},FJ ρ φ es l->es[i]? = some e->∃ m,l[i]? = some m∧AL ρ φ e.1 m.key∧AL ρ φ e.2 m.val:=by
 induction es with
 | nil=>intro l i e h he; simp at he
 | cons x es ih =>
  rintro l i e ⟨y,ys,rfl,h1,h2,h⟩ he
  cases i with
  | zero=>simp at he; subst he; exact ⟨y,rfl,h1,h2⟩
  | succ i=>simpa using ih h (by simpa using he)
theorem Sg {φ:B9} {es:List (V×V)}:∀ {l:List MapEntry} {i:Nat} {e:V×V} {m:MapEntry},FJ ρ φ es l->AL ρ φ e.1 m.key->AL ρ φ e.2 m.val->FJ ρ φ (es.set i e) (l.set i m):=by
 induction es with
 | nil=>intro l i e m h _ _; have h:l=[]:=h; subst h; rfl
 | cons x es ih =>
  rintro l i e m ⟨y,ys,rfl,h1,h2,h⟩ k1 k2
  cases i with
  | zero=>exact ⟨m,ys,rfl,k1,k2,h⟩
  | succ i=>exact ⟨y,ys.set i m,rfl,h1,h2,ih h k1 k2⟩
theorem Rg {φ:B9} {es:List (V×V)}:∀ {l:List MapEntry} {e:V×V} {m:MapEntry},FJ ρ φ es l->AL ρ φ e.1 m.key->AL ρ φ e.2 m.val->FJ ρ φ (es++[e]) (l++[m]):=by
 induction es with
 | nil=>intro l e m h k1 k2; have h:l=[]:=h; subst h; exact ⟨m,[],rfl,k1,k2,rfl⟩
 | cons x es ih=>rintro l e m ⟨y,ys,rfl,h1,h2,h⟩ k1 k2; exact ⟨y,ys++[m],rfl,h1,h2,ih h k1 k2⟩
theorem Pv {φ:B9} {es:List (V×V)}:∀ {l:List MapEntry} {i:Nat},FJ ρ φ es l->FJ ρ φ (es.eraseIdx i) (l.eraseIdx i):=by
 induction es with
 | nil=>intro l i h; have h:l=[]:=h; subst h; rfl
 | cons x es ih =>
  rintro l i ⟨y,ys,rfl,h1,h2,h⟩
  cases i with
  | zero=>exact h
  | succ i=>exact ⟨y,ys.eraseIdx i,rfl,h1,h2,ih h⟩
def Us (pl:Plan) (x:V):Prop :=
 match pl with
 | .sc .i=>∃ k m,x = .int k m
 | .sc .s=>∃ m c,x = .str m c
 | .sc .b=>∃ q,x = .bool q
 | .ks l=>∃ a,x = .agg a∧a.length=l.length
 | _=>False
theorem P6 (ks:List Sc):∀ {a:List V} {κ:R},(Nx ks a κ).good->a.length=ks.length∧Nx ks a κ=κ:=by
 induction ks with
 | nil=>intro a κ h; cases a with
  | nil=>exact ⟨rfl,rfl⟩
  | cons=>exact h.elim
 | cons k ks ih=>intro a κ h; cases a with
  | nil=>exact h.elim
  | cons u a=>have:=ih (a:=a) (κ:=κ) h; exact ⟨by simp [this.1],this.2⟩
theorem Ir {pl:Plan} {v:V} {κ:R} (h:(JC pl v κ).good):Us pl v∧JC pl v κ=κ:=by
 cases pl with
 | sc k =>
  cases k with
  | i=>obtain ⟨k,m,rfl,e⟩:=Cn (show R.good (G3 v fun _ _=>κ) from h); exact ⟨⟨k,m,rfl⟩,rfl⟩
  | s=>obtain ⟨k,m,rfl,e⟩:=BV (show R.good (Bh v fun _ _=>κ) from h); exact ⟨⟨k,m,rfl⟩,rfl⟩
  | b=>obtain ⟨q,rfl,e⟩:=EA (show R.good (OA v fun _=>κ) from h); exact ⟨⟨q,rfl⟩,rfl⟩
 | st fs=>exact h.elim
 | ks l =>
  obtain ⟨a,rfl,e⟩:=Cx (show R.good (asAgg v fun a=>Nx l a κ) from h)
  obtain ⟨h1,h2⟩:=P6 l (show R.good (Nx l a κ) from h)
  exact ⟨⟨a,rfl,h1⟩,h2⟩
 | rf w=>exact h.elim
theorem DC {kt:TypeId} {pl:Plan} (hp:GZ P kt=some pl) {b:Bool} {d:Nat} {K:Value} (hK:(∃ k n,K = .int k n)∨(∃ s,K = .string s)∨(∃ q,K = .bool q) ∨ ∃ cs:Array Value,K = .agg cs ∧ ∀ l,pl = .ks l->cs.size=l.length) (w:World)
  (hsh:(∃ fs,P.underlying kt=some (.struct fs))->∃ cs,K = .agg cs):(Instr.checkKey b (d+2) kt K).run P w = .ok () w:=by
 have leaf:∀ (e:Nat) (t:TypeId) (X:Value) (k:Sc),OF P t=some k->(Instr.checkKey b (e+1) t X).run P w = .ok () w:=fun e t X k hk=>by
  unfold OF at hk
  split at hk
  ·rename_i hu; cases X <;> simp [Instr.checkKey,run_underlying hu]
  ·rename_i hu; cases X <;> simp [Instr.checkKey,run_underlying hu]
  ·rename_i hu; cases X <;> simp [Instr.checkKey,run_underlying hu]
  ·cases hk
 unfold GZ at hp
 split at hp
 ·rename_i fs hu
  split at hp
  ·cases hp
  ·split at hp
   ·rename_i offs hoffs
    split at hp
    ·rename_i hr
     cases hp
     obtain ⟨cs,rfl⟩:=hsh ⟨fs,hu⟩
     have hcs:cs.size=offs.length:=by
      rcases hK with ⟨_,_,h⟩ | ⟨_,h⟩ | ⟨_,h⟩ | ⟨cs',h,hl⟩
      ·cases h
      ·cases h
      ·cases h
      ·cases h; simpa using hl _ rfl
     rw [Instr.checkKey]
     simp only [Sem.run_bind,run_underlying hu,Result.andThen_ok]
     rw [←Array.forIn_toList]
     have key:∀ (fs:List Field) (offs':List (Nat×Sc)),Gm P fs=some offs'->(∀ p∈offs',p.1<cs.size)->(forIn (m:=Sem) fs PUnit.unit (fun f r=>if f.name ≠ "_" then do
        Instr.checkKey b (d+1) f.type (←part f.type cs f.offset)
        pure (ForInStep.yield PUnit.unit) else pure (ForInStep.yield PUnit.unit))).run P w = .ok PUnit.unit w:=by
      intro fs
      induction fs with
      | nil=>intro offs' _ _; simp
      | cons f fs ih =>
       intro offs' ho hlt
       simp only [Gm] at ho
       split at ho
       ·rename_i hn
        split at ho
        ·rename_i k r hk hr
         cases ho
         have hof:f.offset<cs.size:=hlt _ (List.mem_cons_self ..)
         have hpart:=Gf (w:=w) hk (Array.getElem?_eq_getElem hof)
         simp only [List.forIn_cons,hn,ne_eq,not_false_eq_true,if_true,Sem.run_bind,hpart,Result.andThen_ok,leaf d _ _ _ hk,Sem.run_pure]
         exact ih _ hr fun p hp=>hlt p (List.mem_cons_of_mem _ hp)
        ·cases ho
       ·cases ho
     have:=key fs.toList offs hoffs (fun p hp=>by
      obtain ⟨i,hi,rfl⟩:=List.getElem_of_mem hp
      have h1:(offs.map (·.1))[i]? = some offs[i].1:=by rw [List.getElem?_map,List.getElem?_eq_getElem hi]; rfl
      rw [hr,List.getElem?_range hi] at h1
      simp at h1
      omega)
     simp only [ne_eq,ite_not] at this ⊢
     rw [this]; rfl
    ·cases hp
   ·cases hp
 ·cases hk:OF P kt with
  | none=>rw [hk] at hp; cases hp
  | some k=>exact leaf (d+1) kt K k hk
theorem Fn {kt:TypeId} {pl:Plan} (hp:GZ P kt=some pl) {x:V} {φ:B9} {K:Value} (hK:AL ρ φ x K) (hs:Us pl x) :
  ((∃ k n,K = .int k n)∨(∃ s,K = .string s)∨(∃ q,K = .bool q) ∨ ∃ cs:Array Value,K = .agg cs ∧ ∀ l,pl = .ks l->cs.size=l.length) ∧
  ((∃ fs,P.underlying kt=some (.struct fs))->∃ cs,K = .agg cs):=by
 unfold GZ at hp
 split at hp
 ·rename_i fs hu
  split at hp
  ·cases hp
  ·split at hp
   ·split at hp
    ·cases hp
     obtain ⟨l,rfl,hl⟩:=hs
     obtain ⟨cs,rfl,hcs,_⟩:=DV hK
     have:=Be hcs
     exact ⟨.inr (.inr (.inr ⟨cs,rfl,fun l' h=>by cases h; simp at this hl ⊢; omega⟩)),fun _=>⟨cs,rfl⟩⟩
    ·cases hp
   ·cases hp
 ·rename_i hns
  cases hk:OF P kt with
  | none=>rw [hk] at hp; cases hp
  | some k =>
   rw [hk] at hp; cases hp
   refine ⟨?_,fun ⟨fs,hu⟩=>absurd hu (by intro hu; exact hns fs hu)⟩
   cases k with
   | i=>obtain ⟨kd,m,rfl⟩:=hs; exact .inl ⟨_,_,(Cb hK).2⟩
   | s=>obtain ⟨m,c,rfl⟩:=hs; obtain ⟨s,rfl,_⟩:=Ci hK; exact .inr (.inl ⟨s,rfl⟩)
   | b=>obtain ⟨q,rfl⟩:=hs; exact .inr (.inr (.inl ⟨q,Dv hK⟩))
theorem Oz {ty kt e:TypeId} {pl:Plan} {z:V} {zv:Value} {ok:Bool} {m k:Operand} {m' k':Opd} (ho:o.op = .lookup ty m k ok) (hm:AX N m=some m') (hk:AX N k=some k')
  (ht:P.underlying ty=some (.map kt e)) (hp:GZ P kt=some pl) (hzv:(P.info? e).bind (·.zero)=some zv) (hz:ID zv=some z):Bl P ρ B N o (QQ pl z ok m' k' cf t h n) t h n:=by
 intro κ hg
 have e1:QQ pl z ok m' k' cf t h n κ=JC pl (ev k' t) (Dz (ev m' t) (br ok (κ (.tup [z,.bool false]) h n) (κ z h n)) (fun p=>OE p h fun es _ _=>H5 pl (ev k' t) es (fun r=>br ok (κ (.tup [r,.bool true]) h n) (κ r h n)) (br ok (κ (.tup [z,.bool false]) h n) (κ z h n)))):=by
  simp only [QQ,AR]
 rw [e1] at hg
 obtain ⟨hko,e2⟩:=Ir hg
 rw [e2] at hg
 have zr:∀ φ,AL ρ φ z zv:=fun φ=>Kd hz φ
 -- what is told,of a value and whether it was there
 have tell:∀ (v:V) (q:Bool),br ok (κ (.tup [v,.bool q]) h n) (κ v h n)=κ (if ok then .tup [v,.bool q] else v) h n:=fun v q=>by cases ok <;> rfl
 have told:∀ (φ:B9) (v:V) (q:Bool) (X:Value),AL ρ φ v X->AL ρ φ (if ok then .tup [v,.bool q] else v) (if ok then .tuple #[X,.bool q] else X):=fun φ v q X hX=>by
  cases ok with
  | true=>simp only [if_true,AL,Bs]; exact ⟨_,rfl,_,_,rfl,hX,_,_,rfl,rfl,rfl⟩
  | false=>exact hX
 rcases Dk hg with ⟨hmv,e3⟩ | ⟨p,hmv,e3⟩
 ·refine ⟨if ok then .tup [z,.bool false] else z,e1.trans (e2.trans (e3.trans (tell z false))),fun φ a w hT g=>⟨if ok then .tuple #[zv,.bool false] else zv,?_,told φ z false zv (zr φ)⟩⟩
  have g1:=An hm hT
  rw [hmv] at g1
  have gx:=BS g1
  have g2:=An hk hT
  obtain ⟨s1,s2⟩:=Fn hp g2 hko
  have hck:=DC (P:=P) (b:=true) (d:=9998) hp s1 w s2
  have hfk:=EZ (P:=P) (w:=w) hp g2 (es:=[]) (ents:=[]) (r:=none) rfl rfl
  simp only [execOp,ho,gx,C8,Instr.lookup,Sem.run_bind,run_underlying ht,Result.andThen_ok,Sem.run_pure]
  simp [hck,hfk.1,D7 hzv]
 ·rw [e3] at hg
  obtain ⟨es,bs,clk,hpm,e4⟩:=E3 hg
  rw [e4] at hg
  obtain ⟨r,hf,hr⟩:=K9 hp hg
  have key:∀ φ a w,TR ρ N φ t a->Gam ρ B h n φ w->∃ ents clk b,a.eval m = .map (some b)∧w.heap[b]? = some (.map ents clk)∧FJ ρ φ es ents.toList ∧
    (Instr.checkKey ents.isEmpty 10000 kt (a.eval k)).run P w = .ok () w∧(Instr.findKey kt (a.eval k) ents.toList).run P w = .ok (r.bind fun i=>(ents.toList[i]?).map fun e=>(i,e.val)) w:=fun φ a w hT g=>by
   have g1:=An hm hT
   rw [hmv] at g1
   obtain ⟨b,s,tot,hφ,gx⟩:=F8 g1
   obtain ⟨ents,k1,k2,_⟩:=g.obj p _ b s tot hpm hφ
   have g2:=An hk hT
   obtain ⟨s1,s2⟩:=Fn hp g2 hko
   exact ⟨ents,clk,b,gx,k1,k2,DC (d:=9998) hp s1 w s2,(EZ hp g2 hf k2).1⟩
  cases r with
  | none =>
   refine ⟨if ok then .tup [z,.bool false] else z,e1.trans (e2.trans (e3.trans (e4.trans (Eq.trans hr (tell z false))))),fun φ a w hT g=>⟨if ok then .tuple #[zv,.bool false] else zv,?_,told φ z false zv (zr φ)⟩⟩
   obtain ⟨ents,clk,b,gx,k1,k2,hck,hfk⟩:=key φ a w hT g
   have hgo:(getObj b).run P w = .ok (.map ents clk) w:=by simp [getObj,Sem.run,k1]
   simp only [execOp,ho,gx,Instr.lookup,Sem.run_bind,run_underlying ht,Result.andThen_ok,Sem.run_pure,hgo,hck,hfk]
   simp [D7 hzv]
  | some i =>
   obtain ⟨ee,hee,hr⟩:=hr
   refine ⟨if ok then .tup [ee.2,.bool true] else ee.2,e1.trans (e2.trans (e3.trans (e4.trans (Eq.trans hr (tell ee.2 true))))),fun φ a w hT g=>?_⟩
   obtain ⟨ents,clk,b,gx,k1,k2,hck,hfk⟩:=key φ a w hT g
   obtain ⟨mm,hmm,_,hval⟩:=KA k2 hee
   refine ⟨if ok then .tuple #[mm.val,.bool true] else mm.val,?_,told φ ee.2 true mm.val hval⟩
   have hgo:(getObj b).run P w = .ok (.map ents clk) w:=by simp [getObj,Sem.run,k1]
   have hmm':ents[i]? = some mm:=by simpa using hmm
   simp only [execOp,ho,gx,Instr.lookup,Sem.run_bind,run_underlying ht,Result.andThen_ok,Sem.run_pure,hgo,hck,hfk]
   simp [hmm']
theorem HJ {α β:Type} (f:α->β):∀ (l:List α) (i:Nat),(l.eraseIdx i).map f=(l.map f).eraseIdx i
 | [],_=>rfl
 | _::_,0=>rfl
 | x::l,i+1=>by simp [HJ f l i]
theorem Kr {b:Nat} {O O':Obj} {w:World} (h1:w.heap[b]? = some O) (h2:∀ c e f,O ≠ .cells c e f):(setObj b O').run P w = .ok () (CO w b O'):=by
 simp only [setObj,Sem.run,h1]
 cases O with
 | cells c e f=>exact absurd rfl (h2 c e f)
 | _=>rfl
theorem IA {φ:B9} {w:World} (g:Gam ρ B h n φ w) {p:K4} {es es':List (V×V)} {bs bs':List Nat} {clk0:Nat} {b s tot:Nat} {ents:Array MapEntry} {clk:Nat} (hp:AM p h=some (.m es bs clk0)) (hφ:φ p=some (b,s,tot)) (hok:FJ ρ φ es' ents.toList) (hbs:ents.toList.map (·.born)=bs') :
  Gam ρ B (B6 p h (some (.m es' bs' clk))) n φ (CO w b (.map ents clk))∧Fr h (B6 p h (some (.m es' bs' clk))) φ φ n n w (CO w b (.map ents clk)):=by
 have hb:=(g.blk p b s tot hφ).2
 exact ⟨g.write (o:=.m es bs clk0) (o':=.m es' bs' clk) hp hφ rfl rfl ⟨ents,Dm hb,hok,hbs⟩,Fr.write (o:=.m es bs clk0) hp hφ⟩
theorem Ol {ty kt e:TypeId} {pl:Plan} {m k v:Operand} {m' k' v':Opd} (ho:o.op = .mapUpdate ty m k v∨o.op = .insert ty m k v) (hm:AX N m=some m') (hk:AX N k=some k') (hv:AX N v=some v')
  (ht:P.underlying ty=some (.map kt e)) (hp:GZ P kt=some pl):Cy P ρ B N o (Rl pl m' k' v' cf t h n) t h n:=by
 intro κ hg
 have e1:Rl pl m' k' v' cf t h n κ=JC pl (ev k' t) (Dz (ev m' t) (.fail "") (fun p=>OE p h fun es bs c=>Hf pl (ev k' t) (ev v' t) es fun es=>κ Cg (B6 p h (some (.m es (if es.length=bs.length then bs else bs++[c]) (if es.length=bs.length then c else c+1)))) n)):=by
  simp only [Rl,AR,BB,Vm]
 rw [e1] at hg
 obtain ⟨hko,e2⟩:=Ir hg
 rw [e2] at hg
 rcases Dk hg with ⟨hmv,e3⟩ | ⟨p,hmv,e3⟩
 ·rw [e3] at hg; exact hg.elim
 rw [e3] at hg
 obtain ⟨es,bs,clk,hpm,e4⟩:=E3 hg
 rw [e4] at hg
 obtain ⟨r,hf,e5⟩:=Mf hp hg
 refine ⟨Cg,_,n,e1.trans (e2.trans (e3.trans (e4.trans e5))),.skip fun φ a w hT g=>?_⟩
 have g1:=An hm hT
 rw [hmv] at g1
 obtain ⟨b,s,tot,hφ,gx⟩:=F8 g1
 obtain ⟨ents,k1,k2,k3⟩:=g.obj p _ b s tot hpm hφ
 have hlen:es.length=bs.length:=by rw [←EU k2,←k3,List.length_map]
 have g2:=An hk hT
 have g3:=An hv hT
 obtain ⟨s1,s2⟩:=Fn hp g2 hko
 have hck:=DC (P:=P) (b:=false) (d:=9998) hp s1 w s2
 obtain ⟨hfk,hsb⟩:=EZ (P:=P) (w:=w) hp g2 hf k2
 have hgo:(getObj b).run P w = .ok (.map ents clk) w:=by simp [getObj,Sem.run,k1]
 have hso:∀ O',(setObj b O').run P w = .ok () (CO w b O'):=fun O'=>Kr k1 (by simp)
 have fin:∀ (es':List (V×V)) (ents':Array MapEntry) (bs':List Nat) (clk':Nat),FJ ρ φ es' ents'.toList->ents'.toList.map (·.born)=bs' →
   (Instr.mapUpdate ty (.map (some b)) (a.eval k) (a.eval v)).run P w = .ok () (CO w b (.map ents' clk')) →
   ∃ φ' w',(execOp a.eval o).run P w = .ok .skip w'∧Fr h (B6 p h (some (.m es' bs' clk'))) φ φ' n n w w' ∧
    Gam ρ B (B6 p h (some (.m es' bs' clk'))) n φ' w':=fun es' ents' bs' clk' hok hbs hrun=>by
  obtain ⟨q1,q2⟩:=IA (clk:=clk') g hpm hφ hok hbs
  refine ⟨φ,_,?_,q2,q1⟩
  rcases ho with ho | ho <;> simp [execOp,ho,gx,hrun]
 cases r with
 | none =>
  show ∃ φ' w',_∧Fr h (B6 p h (some (.m (es++[(ev k' t,ev v' t)]) (if (es++[(ev k' t,ev v' t)]).length=bs.length then bs else bs++[clk]) (if (es++[(ev k' t,ev v' t)]).length=bs.length then clk else clk+1)))) φ φ' n n w w'∧_
  have hne:(es++[(ev k' t,ev v' t)]).length≠bs.length:=by simp; omega
  rw [if_neg hne,if_neg hne]
  refine fin _ (ents.push { key:=a.eval k,val:=a.eval v,born:=clk }) _ (clk+1) ?_ ?_ ?_
  ·rw [Array.toList_push]; exact Rg k2 g2 g3
  ·rw [Array.toList_push,List.map_append,k3]; rfl
  ·simp only [Instr.mapUpdate,Sem.run_bind,run_underlying ht,Result.andThen_ok,hgo,hck,hfk]
   simp [hso]
 | some i =>
  obtain ⟨mm,hmm,hsame⟩:=hsb i rfl
  show ∃ φ' w',_∧Fr h (B6 p h (some (.m (es.set i (ev k' t,ev v' t)) (if (es.set i (ev k' t,ev v' t)).length=bs.length then bs else bs++[clk]) (if (es.set i (ev k' t,ev v' t)).length=bs.length then clk else clk+1)))) φ φ' n n w w'∧_
  have heq:(es.set i (ev k' t,ev v' t)).length=bs.length:=by rw [List.length_set]; exact hlen
  rw [if_pos heq,if_pos heq]
  have hset:(ents.modify i fun e=>{ e with key:=a.eval k,val:=a.eval v }).toList=ents.toList.set i { mm with key:=a.eval k,val:=a.eval v }:=by
   have hi:i<ents.toList.length:=by
    rcases Nat.lt_or_ge i ents.toList.length with h' | h'
    ·exact h'
    ·rw [List.getElem?_eq_none h'] at hmm; cases hmm
   apply List.ext_getElem?
   intro j
   rw [Array.getElem?_toList,Array.getElem?_modify,List.getElem?_set]
   by_cases hj:i=j
   ·subst hj
    have:ents[i]? = some mm:=by simpa using hmm
    simp [this]; simpa using hi
   ·simp [hj]
  refine fin _ (ents.modify i fun e=>{ e with key:=a.eval k,val:=a.eval v }) _ clk ?_ ?_ ?_
  ·rw [hset]; exact Sg k2 g2 g3
  ·rw [hset,←k3,List.map_set]
   have hmb:(ents.toList.map (·.born))[i]? = some mm.born:=by rw [List.getElem?_map,hmm]; rfl
   apply List.ext_getElem?
   intro j
   rw [List.getElem?_set]
   by_cases hj:i=j
   ·subst hj
    rw [if_pos rfl,hmb]
    have hi:i<(ents.toList.map (·.born)).length:=(List.getElem?_eq_some_iff.1 hmb).1
    rw [if_pos hi]
   ·rw [if_neg hj]
  ·have hmm':ents[i]? = some mm:=by simpa using hmm
   simp only [Instr.mapUpdate,Sem.run_bind,run_underlying ht,Result.andThen_ok,hgo,hck,hfk]
   simp [hmm',Instr.keyThatStays,hsame,hso]
theorem Rf {ct:Call} {ty kt e:TypeId} {pl:Plan} {m k:Operand} {m' k':Opd} {ts:List TypeId} (ho:o.op = .call ct) (hb:ct.callee = .builtin .delete) (hts:ct.argTypes.toList=ty::ts) (hargs:ct.args.toList=[m,k])
  (hm:AX N m=some m') (hk:AX N k=some k') (ht:P.underlying ty=some (.map kt e)) (hp:GZ P kt=some pl):Cy P ρ B N o (Mh pl m' k' cf t h n) t h n:=by
 intro κ hg
 have e1:Mh pl m' k' cf t h n κ=JC pl (ev k' t) (Dz (ev m' t) (κ (.tup []) h n) (fun p=>OE p h fun es bs c=>L5 pl (ev k' t) es fun es'=>L1 pl (ev k' t) es bs fun bs=>κ (.tup []) (B6 p h (some (.m es' bs c))) n)):=by
  simp only [Mh,AR,BB]
 rw [e1] at hg
 obtain ⟨hko,e2⟩:=Ir hg
 rw [e2] at hg
 have hargs':ct.args = #[m,k]:=by rw [←hargs]
 have hts':ct.argTypes[0]? = some ty:=by rw [←Array.getElem?_toList,hts]; rfl
 have htup:∀ φ,AL ρ φ (.tup []) (.tuple #[]):=fun φ=>by simp only [AL]; exact ⟨#[],rfl,by simp only [Bs]⟩
 rcases Dk hg with ⟨hmv,e3⟩ | ⟨p,hmv,e3⟩
 ·refine ⟨_,h,n,e1.trans (e2.trans e3),.pure fun φ a w hT g=>⟨.tuple #[],?_,htup φ⟩⟩
  have g1:=An hm hT
  rw [hmv] at g1
  have gx:=BS g1
  have g2:=An hk hT
  obtain ⟨s1,s2⟩:=Fn hp g2 hko
  have hck:=DC (P:=P) (b:=true) (d:=9998) hp s1 w s2
  simp only [execOp,ho,resolve,hb,hargs',invoke,builtin,Sem.run_bind,Sem.run_pure,Result.andThen_ok]
  simp [Builtin.delete_,hts',gx,C8,run_underlying ht,hck]
 ·rw [e3] at hg
  obtain ⟨es,bs,clk,hpm,e4⟩:=E3 hg
  rw [e4] at hg
  obtain ⟨r,hf,e5⟩:=LD hp hg
  rw [e5] at hg
  have e6:=M0 hg hf
  refine ⟨_,_,n,e1.trans (e2.trans (e3.trans (e4.trans (e5.trans e6)))),.value fun φ a w hT g=>?_⟩
  have g1:=An hm hT
  rw [hmv] at g1
  obtain ⟨b,s,tot,hφ,gx⟩:=F8 g1
  obtain ⟨ents,k1,k2,k3⟩:=g.obj p _ b s tot hpm hφ
  have g2:=An hk hT
  obtain ⟨s1,s2⟩:=Fn hp g2 hko
  have hck:=DC (P:=P) (b:=ents.isEmpty) (d:=9998) hp s1 w s2
  obtain ⟨hfk,hsb⟩:=EZ (P:=P) (w:=w) hp g2 hf k2
  have hgo:(getObj b).run P w = .ok (.map ents clk) w:=by simp [getObj,Sem.run,k1]
  have hso:∀ O',(setObj b O').run P w = .ok () (CO w b O'):=fun O'=>Kr k1 (by simp)
  cases r with
  | none =>
   obtain ⟨q1,q2⟩:=IA (clk:=clk) (ents:=ents) g hpm hφ k2 k3
   refine ⟨φ,.tuple #[],_,?_,q2,q1,htup φ⟩
   simp only [execOp,ho,resolve,hb,hargs',invoke,builtin,Sem.run_bind,Sem.run_pure,Result.andThen_ok]
   simp [Builtin.delete_,hts',gx,run_underlying ht,hgo,hck,hfk,hso]
  | some i =>
   obtain ⟨mm,hmm,_⟩:=hsb i rfl
   have hmm':ents[i]? = some mm:=by simpa using hmm
   have hi:i<ents.size:=by
    rcases Nat.lt_or_ge i ents.size with h' | h'
    ·exact h'
    ·rw [Array.getElem?_eq_none h'] at hmm'; cases hmm'
   have hel:(ents.eraseIdxIfInBounds i).toList=ents.toList.eraseIdx i:=by
    unfold Array.eraseIdxIfInBounds; rw [dif_pos hi]; simp
   obtain ⟨q1,q2⟩:=IA (clk:=clk) (ents:=ents.eraseIdxIfInBounds i) g hpm hφ (es':=es.eraseIdx i) (bs':=bs.eraseIdx i) (by rw [hel]; exact Pv k2) (by rw [hel,←k3,HJ])
   refine ⟨φ,.tuple #[],_,?_,q2,q1,htup φ⟩
   simp only [execOp,ho,resolve,hb,hargs',invoke,builtin,Sem.run_bind,Sem.run_pure,Result.andThen_ok]
   simp [Builtin.delete_,hts',gx,run_underlying ht,hgo,hck,hfk,hmm',hso]
theorem FD {m:Nat} {κ:V->R} (hg:(G7 m κ).good):m<Hk .i64∧G7 m κ=κ (.int .i64 m):=by
 obtain ⟨h1,e1⟩:=Ap (show R.good (br (Nat.ble (Nat.succ m) 9223372036854775808) (κ (.int .i64 m)) (.fail "")) from hg)
 exact ⟨BU h1,e1⟩
theorem DA {m:Nat} (hm:m<Hk .i64) (φ:B9):AL ρ φ (.int .i64 m) (goInt m):=by
 simp only [AL,goInt]
 exact ⟨Nat.lt_of_lt_of_le hm (Gg _),by rw [AI hm]⟩
theorem U0 (es:List (V×V)) (κ:Nat->R):UI es κ=κ es.length:=by
 induction es generalizing κ with
 | nil=>rfl
 | cons x xs ih=>exact (ih fun n=>Ak (Nat.succ n) κ).trans (Ai _ _)
theorem DD {ct:Call} {b:Builtin} (ho:o.op = .call ct) (hb:ct.callee = .builtin b) {a:Act} {w w':World} {v:Value}
  (hr:∀ cs,(builtin b ct.argTypes o.type cs (ct.args.map a.eval)).run P w = .ok (.value v) w'):(execOp a.eval o).run P w = .ok (.value v) w':=by
 simp [execOp,ho,resolve,hb,invoke,hr]
section
variable {ct:Call} {ty:TypeId} {x:Operand} {x':Opd} {ts:List TypeId} {xs:List Operand}
theorem Lh (ho:o.op = .call ct) (hb:ct.callee = .builtin .len) (hts:ct.argTypes.toList=ty::ts) (hargs:ct.args.toList=x::xs)
  (hx:AX N x=some x') (ht:P.underlying ty=some .string):Bl P ρ B N o (LI x' cf t h n) t h n:=by
 intro κ hg
 have e0:LI x' cf t h n κ=TT (ev x' t) (fun l0 l1 _ _=>br (Nat.ble (Nat.succ l1) 9223372036854775808) (κ (.oth (.iv .i64 l0 l1)) h n) (.fail "")) (Bh (ev x' t) fun m _=>G7 m fun v=>κ v h n):=by simp only [LI,AR]
 rw [e0] at hg
 have hargs':ct.args[0]? = some x:=by rw [←Array.getElem?_toList,hargs]; rfl
 have hts':ct.argTypes[0]? = some ty:=by rw [←Array.getElem?_toList,hts]; rfl
 rcases IQ (ev x' t) (fun l0 l1 _ _=>br (Nat.ble (Nat.succ l1) 9223372036854775808) (κ (.oth (.iv .i64 l0 l1)) h n) (.fail "")) (Bh (ev x' t) fun m _=>G7 m fun v=>κ v h n) with ⟨l0,l1,_,_,hv,e1⟩ | e1
 ·rw [e1] at hg
  obtain ⟨hb',e2⟩:=Ap hg
  have hb':l1+1≤9223372036854775808:=Ar.1 hb'
  refine ⟨_,e0.trans (e1.trans e2),fun φ a w hT g=>?_⟩
  have g1:=An hx hT
  rw [hv] at g1
  simp only [AL] at g1
  obtain ⟨s,gx,h1,h2,_⟩:=g1
  refine ⟨goInt s.size,DD ho hb fun cs=>?_,?_⟩
  ·simp [builtin,Builtin.len_,hts',hargs',gx,run_underlying ht]
  ·simp only [AL]
   exact ⟨s.size,h1,h2,by simp only [Mk]; omega,by rw [AI (by simp only [Hk]; omega)]; rfl⟩
 have e1:=e0.trans e1
 rw [←e0,e1] at hg
 obtain ⟨m,c,hv,e2⟩:=BV hg
 rw [e2] at hg
 obtain ⟨hm,e3⟩:=FD hg
 refine ⟨_,e1.trans (e2.trans e3),fun φ a w hT g=>⟨goInt m,DD ho hb fun cs=>?_,DA hm φ⟩⟩
 have g1:=An hx hT
 rw [hv] at g1
 obtain ⟨s,gx,hs,_⟩:=Ci g1
 simp [builtin,Builtin.len_,hts',hargs',gx,run_underlying ht,hs]
theorem Mn {e:TypeId} (ho:o.op = .call ct) (hb:ct.callee = .builtin .len) (hts:ct.argTypes.toList=ty::ts) (hargs:ct.args.toList=x::xs)
  (hx:AX N x=some x') (ht:P.underlying ty=some (.slice e)):Bl P ρ B N o (LH x' cf t h n) t h n:=by
 intro κ hg
 have e0:LH x' cf t h n κ=He (ev x' t) (κ (.int .i64 0) h n) (fun p off len cap ex esz=>G7 len fun v=>κ v h n) (fun o=>Vf o (fun l0 l1=>br (Nat.ble (Nat.succ l1) 9223372036854775808) (κ (.oth (.iv .i64 l0 l1)) h n) (.fail "")) (OP o (fun i l0 l1 z=>br (Nat.ble (Nat.succ l1) 9223372036854775808) (br (Nat.beq l0 l1) (κ (.int .i64 l0) h n) (κ (.oth (.iv .i64 l0 l1)) h n)) (.fail "")) (.fail ""))):=by simp only [LH,AR]
 rw [e0] at hg
 have hargs':ct.args[0]? = some x:=by rw [←Array.getElem?_toList,hargs]; rfl
 have hts':ct.argTypes[0]? = some ty:=by rw [←Array.getElem?_toList,hts]; rfl
 rcases Jf hg with ⟨hv,e2⟩ | ⟨p,off,len,cap,ex,esz,hv,e2⟩ | ⟨oo,hv,e2⟩
 ·refine ⟨_,e0.trans e2,fun φ a w hT g=>⟨goInt 0,DD ho hb fun cs=>?_,DA (by decide) φ⟩⟩
  have g1:=An hx hT
  rw [hv] at g1
  have gx:=BS g1
  simp [builtin,Builtin.len_,hts',hargs',gx,C8,run_underlying ht]
 ·rw [e2] at hg
  obtain ⟨hm,e3⟩:=FD hg
  refine ⟨_,e0.trans (e2.trans e3),fun φ a w hT g=>⟨goInt len,DD ho hb fun cs=>?_,DA hm φ⟩⟩
  have g1:=An hx hT
  rw [hv] at g1
  obtain ⟨b,s,tot,oo,rcap,hφ,gx,_⟩:=CG g1
  simp [builtin,Builtin.len_,hts',hargs',gx,run_underlying ht]
 ·rw [e2] at hg
  cases oo with
  | os l0 l1 =>
   have hg':R.good (br (Nat.ble (Nat.succ l1) 9223372036854775808) (κ (.oth (.iv .i64 l0 l1)) h n) (.fail "")):=hg
   obtain ⟨hb',e3⟩:=Ap hg'
   have hb':l1+1≤9223372036854775808:=Ar.1 hb'
   refine ⟨_,e0.trans (e2.trans e3),fun φ a w hT g=>?_⟩
   have g1:=An hx hT
   rw [hv] at g1
   simp only [AL] at g1
   obtain ⟨p,len,cap,gx,h1,h2,h3⟩:=g1
   refine ⟨goInt len,DD ho hb fun cs=>?_,?_⟩
   ·simp [builtin,Builtin.len_,hts',hargs',gx,run_underlying ht]
   ·simp only [AL]
    exact ⟨len,h1,h2,by simp only [Mk]; omega,by rw [AI (by simp only [Hk]; omega)]; rfl⟩
  | ro i l0 l1 z =>
   have hg':R.good (br (Nat.ble (Nat.succ l1) 9223372036854775808) (br (Nat.beq l0 l1) (κ (.int .i64 l0) h n) (κ (.oth (.iv .i64 l0 l1)) h n)) (.fail "")):=hg
   obtain ⟨hb',e3⟩:=Ap hg'
   have hb':l1+1≤9223372036854775808:=Ar.1 hb'
   have key:∃ v,br (Nat.beq l0 l1) (κ (.int .i64 l0) h n) (κ (.oth (.iv .i64 l0 l1)) h n)=κ v h n ∧ ∀ (φ:B9) (len:Nat),l0≤len->len≤l1->AL ρ φ v (goInt len):=by
    cases hl:Nat.beq l0 l1 with
    | true =>
     have hl:=Nat.eq_of_beq_eq_true hl
     refine ⟨_,by rw [AZ],fun φ len h1 h2=>?_⟩
     obtain rfl:len=l0:=by omega
     exact DA (show len<9223372036854775808 by omega) φ
    | false =>
     refine ⟨_,by rw [B2],fun φ len h1 h2=>?_⟩
     simp only [AL]
     exact ⟨len,h1,h2,by simp only [Mk]; omega,by rw [AI (by simp only [Hk]; omega)]; rfl⟩
   obtain ⟨v,e4,hv4⟩:=key
   refine ⟨_,e0.trans (e2.trans (e3.trans e4)),fun φ a w hT g=>?_⟩
   have g1:=An hx hT
   rw [hv] at g1
   simp only [AL] at g1
   obtain ⟨b,q,len,cap,c,e',fr,gx,h1,h2,h3,_⟩:=g1
   refine ⟨goInt len,DD ho hb fun cs=>?_,hv4 φ len h1 h2⟩
   simp [builtin,Builtin.len_,hts',hargs',gx,run_underlying ht]
  | _=>exact hg.elim
theorem MA {e:TypeId} (ho:o.op = .call ct) (hb:ct.callee = .builtin .cap) (hts:ct.argTypes.toList=ty::ts) (hargs:ct.args.toList=x::xs)
  (hx:AX N x=some x') (ht:P.underlying ty=some (.slice e)):Bl P ρ B N o (Mz x' cf t h n) t h n:=by
 intro κ hg
 have e1:Mz x' cf t h n κ=CU (ev x' t) (κ (.int .i64 0) h n) (fun p off len cap ex esz=>br ex (G7 cap fun v=>κ v h n) (.fail "")):=by simp only [Mz,AR]
 rw [e1] at hg
 have hargs':ct.args[0]? = some x:=by rw [←Array.getElem?_toList,hargs]; rfl
 have hts':ct.argTypes[0]? = some ty:=by rw [←Array.getElem?_toList,hts]; rfl
 rcases CD hg with ⟨hv,e2⟩ | ⟨p,off,len,cap,ex,esz,hv,e2⟩
 ·refine ⟨_,e1.trans e2,fun φ a w hT g=>⟨goInt 0,DD ho hb fun cs=>?_,DA (by decide) φ⟩⟩
  have g1:=An hx hT
  rw [hv] at g1
  have gx:=BS g1
  simp [builtin,Builtin.cap_,hts',hargs',gx,C8,run_underlying ht]
 ·rw [e2] at hg
  obtain ⟨hex,e3⟩:=Ap hg
  rw [e3] at hg
  obtain ⟨hm,e4⟩:=FD hg
  refine ⟨_,e1.trans (e2.trans (e3.trans e4)),fun φ a w hT g=>⟨goInt cap,DD ho hb fun cs=>?_,DA hm φ⟩⟩
  have g1:=An hx hT
  rw [hv] at g1
  obtain ⟨b,s,tot,oo,rcap,hφ,gx,_,_,c3,_⟩:=CG g1
  have hc:=c3 hex
  subst hc
  simp [builtin,Builtin.cap_,hts',hargs',gx,run_underlying ht]
theorem Lv {k e:TypeId} (ho:o.op = .call ct) (hb:ct.callee = .builtin .len) (hts:ct.argTypes.toList=ty::ts) (hargs:ct.args.toList=x::xs)
  (hx:AX N x=some x') (ht:P.underlying ty=some (.map k e)):Bl P ρ B N o (LQ x' cf t h n) t h n:=by
 intro κ hg
 have e1:LQ x' cf t h n κ=Dz (ev x' t) (κ (.int .i64 0) h n) (fun p=>OE p h fun es _ _=>G7 es.length fun v=>κ v h n):=by
  simp only [LQ,AR]
  congr 1; funext p; congr 1; funext es _ _; exact U0 es _
 rw [e1] at hg
 have hargs':ct.args[0]? = some x:=by rw [←Array.getElem?_toList,hargs]; rfl
 have hts':ct.argTypes[0]? = some ty:=by rw [←Array.getElem?_toList,hts]; rfl
 rcases Dk hg with ⟨hv,e2⟩ | ⟨p,hv,e2⟩
 ·refine ⟨_,e1.trans e2,fun φ a w hT g=>⟨goInt 0,DD ho hb fun cs=>?_,DA (by decide) φ⟩⟩
  have g1:=An hx hT
  rw [hv] at g1
  have gx:=BS g1
  simp [builtin,Builtin.len_,hts',hargs',gx,C8,run_underlying ht]
 ·rw [e2] at hg
  obtain ⟨es,bs,clk,hpm,e3⟩:=E3 hg
  rw [e3] at hg
  obtain ⟨hm,e4⟩:=FD hg
  refine ⟨_,e1.trans (e2.trans (e3.trans e4)),fun φ a w hT g=>⟨goInt es.length,DD ho hb fun cs=>?_,DA hm φ⟩⟩
  have g1:=An hx hT
  rw [hv] at g1
  obtain ⟨b,s,tot,hφ,gx⟩:=F8 g1
  obtain ⟨ents,k1,k2,_⟩:=g.obj p _ b s tot hpm hφ
  have hl:=EU k2
  have hgo:(getObj b).run P w = .ok (.map ents clk) w:=by simp [getObj,Sem.run,k1]
  simp [builtin,Builtin.len_,hts',hargs',gx,run_underlying ht,hgo]
  rw [←hl]; simp
end
end
end Go.Ev

namespace Go.Ev
set_option linter.unusedVariables false
section
variable {P:Program} {ρ:Env} {B N:Nat} {o:Oper} {cf:CF} {t:Regs} {h:Heap} {n:K4}
theorem Gam.frz {φ:B9} {w:World} (g:Gam ρ B h n φ w) {p:K4} {cs:Cs} {sup:Bool} {prev:Option K4} {b s tot:Nat} {c:Array Value} {e:TypeId} {fr fr':Nat×Nat}
  (hp:AM p h=some (.c cs sup prev)) (hφ:φ p=some (b,s,tot)) (hw:w.heap[b]? = some (.cells c e fr)) (hf:UF fr' c.size) :
  Gam ρ B h n φ (CO w b (.cells c e fr'))∧Fr h h φ φ n n w (CO w b (.cells c e fr')):=by
 have hb:=(g.blk p b s tot hφ).2
 refine ⟨⟨by rw [DS]; exact g.base,g.dom,fun q b1 s1 t1 hx=>by rw [DS]; exact g.blk q b1 s1 t1 hx,fun q o1 b1 s1 t1 hq hx=>?_,g.sep,g.sup,fun k c e fr hk=>⟨(g.glob k c e fr hk).1,by rw [GT (by have:=(g.glob k c e fr hk).1; have:=(g.blk p b s tot hφ).1; omega)]; exact (g.glob k c e fr hk).2⟩⟩,
  ⟨B9.le_refl φ,fun _ _ h=>.inl h,Nat.le_refl _,rfl,rfl,rfl,by rw [DS]; exact Nat.le_refl _,fun k hk hn=>GT fun e=>?_,fun _ _ _ _ h=>.inl h,fun _ _ h=>h⟩⟩
 ·have k:=g.obj q o1 b1 s1 t1 hq hx
  by_cases e:b=b1
  ·subst e
   cases o1 with
   | c cs1 sup1 prev1 =>
    obtain ⟨c1,e1,fr1,h1,h2,h3,h4,h5⟩:=k
    rw [hw] at h1; cases h1
    exact ⟨c,e,fr',Dm hb,h2,h3,h2 ▸ hf,h5⟩
   | m es bs clk=>obtain ⟨ents,h1,_⟩:=k; rw [hw] at h1; cases h1
   | it p since seen c=>obtain ⟨bm,sm,tm,_,_,h1⟩:=k; rw [hw] at h1; cases h1
   | it0=>obtain ⟨_,h1⟩:=k; rw [hw] at h1; cases h1
   | lp _ _=>obtain ⟨_,A,fn,tmps,D,_,h1,_⟩:=k; rw [hw] at h1; cases h1
  ·exact C9 (GT e) k
 ·subst e
  have:=hn p s tot hφ; rw [hp] at this; cases this
theorem R3 {src dst e e':TypeId} {x:Operand} {x':Opd} (ho:o.op = .convert src dst x) (hx:AX N x=some x') (hs:P.underlying src=some (.slice e')) (hd:P.underlying dst=some (.slice e)) (hsd:(src == dst)=true) (he:P.underlying e=some (.int .u8)) :
  Cy P ρ B N o (LL x' cf t h n) t h n:=by
 intro κ hg
 have e1:LL x' cf t h n κ=CU (ev x' t) (.fail "") (fun p _ _ _ _ _=>It p h fun _ _ _=>κ (ev x' t) h n):=by simp only [LL,AR]
 rw [e1] at hg
 rcases CD hg with ⟨hv,e2⟩ | ⟨p,off,len,cap,ex,esz,hv,e2⟩
 ·rw [e2] at hg; exact hg.elim
 ·rw [e2] at hg
  obtain ⟨cs,sup,prev,hp,e3⟩:=CP hg
  refine ⟨_,h,n,e1.trans (e2.trans e3),.value fun φ a w hT g=>?_⟩
  have g1:=An hx hT
  rw [hv] at g1
  obtain ⟨b,s,tot,q,cap',hφ,gx,_⟩:=CG g1
  obtain ⟨c,et,fr,k1,k2,k3,k4,k5⟩:=g.obj p _ b s tot hp hφ
  obtain ⟨g2,g3⟩:=g.frz hp hφ k1 (fr':=if fr.1 == fr.2 then (c.size,c.size+1) else (min fr.1 c.size,max fr.2 (c.size+1))) (by
   split
   ·exact .inr (Nat.le_refl _)
   ·rename_i hne
    rcases k4 with h' | h'
    ·simp [h'] at hne
    ·exact .inr (by show c.size≤min fr.1 c.size; omega))
  refine ⟨φ,a.eval x,_,?_,g3,g2,by rw [hv]; exact g1⟩
  have hsh:w.shape? b=some (et,c.size):=by unfold World.shape?; rw [k1]
  have hfz:=Gh (off:=c.size) k1
  simp only [execOp,ho,gx,convert,Sem.run_bind,run_underlying hs,run_underlying hd,Result.andThen_ok,hsd,run_underlying he,markStringish]
  have hsr:(shape b).run P w = .ok (some (et,c.size)) w:=by simp [shape,Sem.run,hsh]
  simp only [hsr,Result.andThen_ok,run_freeze,hfz,Sem.run_pure]
theorem Pk (off:Nat) (vs:List Value):∀ (k:Nat) (c:Array Value),off+k+vs.length≤c.size →
  ((vs.zipIdx k).foldl (fun cs (x:Value×Nat)=>cs.setIfInBounds (off+x.2) x.1) c).toList=c.toList.take (off+k)++(vs++c.toList.drop (off+k+vs.length)):=by
 induction vs with
 | nil=>intro k c _; simp
 | cons v vs ih =>
  intro k c hk
  simp only [List.length_cons] at hk
  rw [List.zipIdx_cons,List.foldl_cons,ih (k+1) _ (by simp; omega)]
  have hlt:off+k<c.toList.length:=by simp; omega
  rw [Array.toList_setIfInBounds,List.set_eq_take_append_cons_drop,if_pos hlt]
  have hl:(c.toList.take (off+k)).length=off+k:=by rw [List.length_take]; omega
  have h1:(c.toList.take (off+k)++v::c.toList.drop (off+k+1)).take (off+(k+1))=c.toList.take (off+k)++[v]:=by
   rw [List.take_append,hl,List.take_of_length_le (by omega)]
   have:off+(k+1) - (off+k)=1:=by omega
   rw [this]; rfl
  have h2:(c.toList.take (off+k)++v::c.toList.drop (off+k+1)).drop (off+(k+1)+vs.length)=c.toList.drop (off+k+(v::vs).length):=by
   rw [List.drop_append,hl,List.drop_eq_nil_of_le (by omega)]
   have:off+(k+1)+vs.length - (off+k)=vs.length+1:=by omega
   rw [this,List.drop_succ_cons,List.drop_drop,List.nil_append]
   congr 1; simp only [List.length_cons]; omega
  rw [h1,h2]; simp
theorem QB {xs ys:List V} {off:Nat} {κ:List V->R} (hg:(KW xs off ys κ).good):off+ys.length≤xs.length∧KW xs off ys κ=κ (xs.take off++(ys++xs.drop (off+ys.length))):=by
 obtain ⟨h1,e1⟩:=EN (show R.good (Dn off xs _) from hg)
 have e1:KW xs off ys κ=_:=e1
 rw [e1,Dd,Ai] at hg
 obtain ⟨h2,e2⟩:=EO hg
 exact ⟨h2,by rw [e1,Dd,Ai,e2,Ei,Ei]; rfl⟩
theorem F7 (hρ:Bo ρ) {place:Nat->Option (Nat×Nat)}:∀ {parts:List (Nat×Operand)} {ps:List Part} {z:List V} {κ:List V->R},Fc N place parts=some ps->(D2 ps t z κ).good →
  ∃ l,l.length=z.length∧D2 ps t z κ=κ l ∧ ∀ (φ:B9) (a:Act) (zc:Array Value),TR ρ N φ t a->Bs ρ φ z zc.toList->(∀ y∈zc.toList,y.oneCell'=true) →
   ∃ cells,Instr.fill place zc (parts.map fun x=>(x.1,a.eval x.2))=some cells∧Bs ρ φ l cells.toList ∧ ∀ y∈cells.toList,y.oneCell'=true
 | [],ps,z,κ,hp,hg=>by
  simp only [Fc,Option.some.injEq] at hp; subst hp
  exact ⟨z,rfl,rfl,fun φ a zc _ h1 h2=>⟨zc,rfl,h1,h2⟩⟩
 | (i,x)::parts,ps,z,κ,hp,hg=>by
  simp only [Fc] at hp
  split at hp
  ·rename_i off size x' xs hpl hx hxs
   cases hp
   have e1:D2 (⟨off,size,x'⟩::xs) t z κ=DP (ev x' t) fun l=>Gu l fun m=>br (Nat.beq m size) (KW z off l fun z=>D2 xs t z κ) (.fail ""):=AR x' t _
   rw [e1] at hg
   obtain ⟨hc,e2⟩:=F9 hg
   rw [e2,Dd] at hg
   obtain ⟨h3,e3⟩:=Ap hg
   have h3:=Nat.eq_of_beq_eq_true h3
   rw [e3] at hg
   obtain ⟨h4,e4⟩:=QB hg
   rw [e4] at hg
   obtain ⟨l,hl,e5,H⟩:=F7 hρ hxs hg
   have hlen:((z.take off)++((ev x' t).cl++z.drop (off+(ev x' t).cl.length))).length=z.length:=by
    simp only [List.length_append,List.length_take,List.length_drop]; omega
   refine ⟨l,hl.trans hlen,e1.trans (e2.trans ((Dd _ _).trans (e3.trans (e4.trans e5)))),fun φ a zc hT h1 h2=>?_⟩
   obtain ⟨hr,ho⟩:=GW hρ hc (An hx hT)
   have hrl:=Be hr
   have hzl:=Be h1
   have hsz:(a.eval x).cells.size=size:=by rw [←h3,←hrl]; simp
   have hle:off+0+(a.eval x).cells.toList.length≤zc.size:=by rw [hrl]; simp at hzl; omega
   have hfold:=Pk off (a.eval x).cells.toList 0 zc hle
   obtain ⟨cells,k1,k2,k3⟩:=H φ a (((a.eval x).cells.toList.zipIdx 0).foldl (fun cs (x:Value×Nat)=>cs.setIfInBounds (off+x.2) x.1) zc) hT (by
    rw [hfold,Nat.add_zero,hrl]
    exact F3 (Iy h1 off) (F3 hr (IS h1 _))) (fun y hy=>by
    rw [hfold] at hy
    rcases List.mem_append.1 hy with hy | hy
    ·exact h2 y (List.mem_of_mem_take hy)
    ·rcases List.mem_append.1 hy with hy | hy
     ·exact ho y hy
     ·exact h2 y (List.mem_of_mem_drop hy))
   refine ⟨cells,?_,k2,k3⟩
   rw [List.map_cons,Instr.fill,hpl]
   have hcond:((a.eval x).cells.size≠size || off+(a.eval x).cells.size > zc.size)=false:=by
    simp at hle; simp [hsz]; omega
   simp only [hcond,Bool.false_eq_true,if_false]
   rw [←k1]
   congr 1
   rw [←Array.foldl_toList,Array.toList_zipIdx]
  ·cases hp
theorem CT {ty:TypeId} {z:List V} (hz:Da P ty=some z):∃ zv it,P.info? ty=some it∧it.zero=some zv ∧ ∀ φ,Bs ρ φ z zv.cells.toList ∧ ∀ y∈zv.cells.toList,y.oneCell'=true:=by
 unfold Da at hz
 cases hi:P.info? ty with
 | none=>rw [hi] at hz; cases hz
 | some it =>
  rw [hi] at hz
  cases hzv:it.zero with
  | none=>rw [Option.bind_some,hzv] at hz; cases hz
  | some zv =>
   rw [Option.bind_some,hzv] at hz
   exact ⟨zv,it,rfl,hzv,fun φ=>Ep (show Hc zv.cells.toList=some z from hz) φ⟩
theorem EX {ty:TypeId} {parts:Array (Nat×Operand)} {place:Nat->Option (Nat×Nat)} {z:List V} {ps:List Part} (hρ:Bo ρ) (ho:o.op = .build ty parts) (hz:Da P ty=some z) (hps:Fc N place parts.toList=some ps)
  (hb:∀ it zv,P.info? ty=some it->it.zero=some zv->∀ l,P.built ty l=Instr.fill place zv.cells l):Bl P ρ B N o (Qr z ps cf t h n) t h n:=by
 intro κ hg
 obtain ⟨l,hl,e1,H⟩:=F7 hρ hps (show R.good (D2 ps t z fun l=>κ (.agg l) h n) from hg)
 refine ⟨_,e1,fun φ a w hT g=>?_⟩
 obtain ⟨zv,it,hi,hzv,hr⟩:=CT (ρ:=ρ) hz
 obtain ⟨cells,k1,k2,k3⟩:=H φ a zv.cells hT (hr φ).1 (hr φ).2
 refine ⟨.agg cells,?_,by simp only [AL]; exact ⟨_,rfl,k2,k3⟩⟩
 have hbuilt:P.built ty (parts.map fun (i,x)=>(i,a.eval x)).toList=some cells:=by
  rw [hb it zv hi hzv,Array.toList_map]; exact k1
 simp only [execOp,ho,Sem.run_bind,run_build w ty _ cells hbuilt,Result.andThen_ok,Sem.run_pure]
theorem DB {φ:B9} {z:List V} {zc:Array Value} (hr:Bs ρ φ z zc.toList) (ho:∀ y∈zc.toList,y.oneCell'=true) {k i:Nat} (hi:i<k) {v:V} (hv:z[i % z.length]? = some v) :
  ∃ x,((Array.range k).map (zc[· % zc.size]!))[i]? = some x∧AL ρ φ v x∧x.oneCell'=true:=by
 have hl:=Be hr
 obtain ⟨x,hx,hrx⟩:=(Cc.1 hr).2 _ v hv
 refine ⟨x,?_,hrx,ho x (List.mem_of_getElem? hx)⟩
 rw [Array.getElem?_map,Array.getElem?_range,if_pos hi]
 have hs:zc.size=z.length:=by simpa using hl
 have hx':zc[i % z.length]? = some x:=by simpa using hx
 simp [hs,getElem!_def,hx']
theorem LR {z:List V}:∀ {m i:Nat},i<m*z.length->(DO z m)[i]? = z[i % z.length]?:=by
 intro m
 induction m with
 | zero=>intro i hi; simp at hi
 | succ m ih =>
  intro i hi
  simp only [DO]
  by_cases hz:i<z.length
  ·rw [List.getElem?_append_left hz,Nat.mod_eq_of_lt hz]
  ·rw [List.getElem?_append_right (by omega),ih (by rw [Nat.succ_mul] at hi; omega)]
   congr 1
   rw [←Nat.mod_eq_sub_mod (by omega)]
theorem CB {z:List V} {m:Nat}:(DO z m).length=m*z.length:=by
 induction m with
 | zero=>simp [DO]
 | succ m ih=>simp only [DO,List.length_append,ih,Nat.succ_mul]; omega
theorem FW {φ:B9} {p:K4} {b tot len cap esz:Nat} (h1:len≤cap) (h2:cap*esz≤tot):AL ρ (E7 φ p (b,0,tot)) (.sl p 0 len cap true esz) (.slice (some ⟨b,0,none⟩) len cap):=by
 simp only [AL]
 exact ⟨b,0,tot,0,cap,BT _ _ _,rfl,h1,Nat.le_refl _,fun _=>rfl,fun _=>⟨rfl,by omega⟩⟩
theorem MG {ty e:TypeId} {len s:Nat} {parts:Array (Nat×Operand)} {z:List V} {ps:List Part} {u8:Bool} (hρ:Bo ρ) (ho:o.op = .buildSlice ty len parts) (hu:P.underlying ty=some (.slice e)) (hs:Bv P e=some s) (hz:Da P e=some z)
  (hsz:s=z.length) (h0:0<s) (hbig:len*s≤2 ^ 24) (hps:Fc N (fun i=>some (i*s,s)) parts.toList=some ps):Cy P ρ B N o (Gs u8 len s (DO z len) ps cf t h n) t h n:=by
 intro κ hg
 obtain ⟨l,hl,e1,H⟩:=F7 hρ hps (show R.good (D2 ps t (DO z len) _) from hg)
 have e1:Gs u8 len s (DO z len) ps cf t h n κ=_:=e1
 rw [e1] at hg
 rw [CB] at hl
 obtain ⟨zv,it,hi,hzv,hr⟩:=CT (ρ:=ρ) hz
 have hits:it.size=s:=by unfold Bv at hs; rw [hi] at hs; simpa using hs
 -- the cells,whichever way they are kept
 have fin:∀ (cs:Cs) (n':K4),n'.toN=n.toN+1->cs.len=l.length->(∀ i,cs.at i=l[i]?)->Gb P ρ B N o t h n (.sl n 0 len len true s) (B6 n h (some (.c cs false none))) n':=fun cs n' hn hcl hca=>.value fun φ a w hT g=>by
  have hzl:=Be (hr φ).1
  obtain ⟨cells,k1,k2,k3⟩:=H φ a ((Array.range (len*s)).map (zv.cells[· % zv.cells.size]!)) hT (Cc.2 ⟨by simp [CB,hsz],fun i v hv=>by
    have hlt:i<len*z.length:=by
     rcases Nat.lt_or_ge i (len*z.length) with h' | h'
     ·exact h'
     ·rw [List.getElem?_eq_none (by rw [CB]; exact h')] at hv; cases hv
    rw [LR hlt] at hv
    obtain ⟨x,hx,hrx,_⟩:=DB (hr φ).1 (hr φ).2 (k:=len*s) (by rw [hsz]; exact hlt) hv
    exact ⟨x,by rw [Array.getElem?_toList]; exact hx,hrx⟩⟩) (fun y hy=>by
    obtain ⟨i,hi',rfl⟩:=List.getElem_of_mem hy
    have hlt:i<len*z.length:=by simpa [hsz] using hi'
    have hzp:i % z.length<z.length:=Nat.mod_lt _ (by omega)
    obtain ⟨x,hx,_,hox⟩:=DB (hr φ).1 (hr φ).2 (k:=len*s) (i:=i) (by rw [hsz]; exact hlt) (List.getElem?_eq_getElem hzp)
    have hx':=hx
    rw [←Array.getElem?_toList,List.getElem?_eq_getElem hi'] at hx'
    cases hx'; exact hox)
  have hcl2:=Be k2
  have hc:=DJ k2 k3
  obtain ⟨g1,g2⟩:=Ct g hn (e:=e) (fr:=(0,0)) (c:=cells) (cs:=cs) (by rw [hcl]; simp at hcl2; omega) (Jk _) (fun i v hv=>by rw [hca i] at hv; simpa using hc i v hv)
  refine ⟨_,.slice (some ⟨w.heap.size,0,none⟩) len len,_,?_,g2,g1,FW (Nat.le_refl _) (by simp at hcl2; rw [hcl2,hl,hsz]; exact Nat.le_refl _)⟩
  have hfill:Instr.fill (fun i=>some (i*it.size,it.size)) ((Array.range (len*it.size)).map (zv.cells[· % zv.cells.size]!)) (parts.map fun (i,x)=>(i,a.eval x)).toList=some cells:=by
   rw [hits,Array.toList_map]; exact k1
  have hrun:(Instr.buildSlice ty len (parts.map fun (i,x)=>(i,a.eval x))).run P w = .ok (.slice (some ⟨w.heap.size,0,none⟩) len len) (w.alloc (.cells cells e)):=by
   by_cases h00:len*it.size=0
   ·have hfill':Instr.fill (fun i=>some (i*it.size,it.size)) #[] (parts.map fun (i,x)=>(i,a.eval x)).toList=some cells:=by
     have:(Array.range (len*it.size)).map (zv.cells[· % zv.cells.size]!) = #[]:=Array.eq_empty_of_size_eq_zero (by simp [h00])
     rw [this] at hfill; exact hfill
    simp only [Instr.buildSlice,Sem.run_bind,run_underlying hu,Result.andThen_ok,Bf hs]
    rw [←hits]
    simp only [h00]
    have hr0:∀ q:Array Value,(Array.range 0).map (fun x=>q[x % q.size]!) = #[]:=fun q=>Array.eq_empty_of_size_eq_zero (by simp)
    simp [hr0]
    rw [Array.toList_map] at hfill'
    rw [show (List.map (fun x:Nat×Operand=>(x.fst,a.eval x.snd)) parts.toList)=List.map (fun x=>match x with | (i,x)=>(i,a.eval x)) parts.toList from rfl,hfill']
    rfl
   ·exact run_buildSlice w ty e len _ cells it zv hu hi hzv (by rw [hits]; omega) h00 hfill
  simp only [execOp,ho,Sem.run_bind,hrun,Result.andThen_ok,Sem.run_pure]
 cases u8 with
 | true =>
  have hg':R.good (CL l (fun m c=>D0 h n (.c (.b m c) false none) fun h' n'=>κ (.sl n 0 len len true s) h' n') (.fail "")):=hg
  obtain ⟨m,c,e2,hml,hma,_⟩:=Hv hg'
  rw [e2] at hg'
  obtain ⟨n',hn,e3⟩:=Bq hg'
  exact ⟨_,_,_,e1.trans (Eq.trans e2 e3),fin (.b m c) n' hn hml hma⟩
 | false =>
  obtain ⟨n',hn,e3⟩:=Bq (show R.good (D0 h n (.c (.l l) false none) fun h' n'=>κ (.sl n 0 len len true s) h' n') from hg)
  exact ⟨_,_,_,e1.trans e3,fin (.l l) n' hn rfl fun _=>rfl⟩
theorem MP {z:List V} (h:KU z=true):z=[.int .u8 0]:=by
 unfold KU at h
 split at h
 ·rfl
 ·cases h
theorem Pf {ty e:TypeId} {l c:Operand} {l' c':Opd} {s eb:Nat} {z:List V} (ho:o.op = .makeSlice ty l c) (hl:AX N l=some l') (hc:AX N c=some c') (hu:P.underlying ty=some (.slice e)) (hs:Bv P e=some s) (hb:Ew P e=some eb) (hz:Da P e=some z)
  (hsz:s=z.length) (h0:0<s) (hb0:0<eb):Cy P ρ B N o (FM eb (KU z) z l' c' cf t h n) t h n:=by
 intro κ hg
 have e1:FM eb (KU z) z l' c' cf t h n κ=Ip (ev l' t) fun a=>Ip (ev c' t) fun b=>br (Nat.ble a b) (br (Nat.ble (Nat.mul eb b) 281474976710656) (EL (KU z) z b fun y=>D0 h n (.c y false none) fun h' n'=>κ (.sl n 0 a b true z.length) h' n') (.fail "")) (.fail ""):=by
  simp only [FM,AR,Dd]
 rw [e1] at hg
 obtain ⟨k1,a,hlv,ha,e2⟩:=D9 hg
 rw [e2] at hg
 obtain ⟨k2,b,hcv,hbv,e3⟩:=D9 hg
 rw [e3] at hg
 obtain ⟨h4,e4⟩:=Ap hg
 rw [e4] at hg
 obtain ⟨h5,e5⟩:=Ap hg
 rw [e5] at hg
 have h4:=Ar.1 h4
 have h5:eb*b≤281474976710656:=Ar.1 h5
 obtain ⟨y,e6,hyl,hya⟩:=GN (KU z) z b (fun y=>D0 h n (.c y false none) fun h' n'=>κ (.sl n 0 a b true z.length) h' n') MP
 rw [e6] at hg
 obtain ⟨n',hn,e7⟩:=Bq hg
 refine ⟨_,_,_,e1.trans (e2.trans (e3.trans (e4.trans (e5.trans (e6.trans e7))))),.value fun φ ac w hT g=>?_⟩
 have g1:=An hl hT
 rw [hlv] at g1
 have gl:=EI ha g1
 have g2:=An hc hT
 rw [hcv] at g2
 have gc:=EI hbv g2
 obtain ⟨zv,it,hi,hzv,hr⟩:=CT (ρ:=ρ) hz
 have hits:it.size=s:=by unfold Bv at hs; rw [hi] at hs; simpa using hs
 have hitb:it.bytes=eb:=by unfold Ew at hb; rw [hi] at hb; simpa using hb
 have hb63:b≤281474976710656:=Nat.le_trans (Nat.le_mul_of_pos_left b hb0) h5
 have hrun:=run_make (P:=P) w ty e it zv hu hi hzv k1 k2 (a:Int) (b:Int) (by omega) (by omega) (by rw [hitb,←Int.natCast_mul]; exact Int.ofNat_le.2 h5) (by omega)
 obtain ⟨g3,g4⟩:=Ct g hn (e:=e) (fr:=(0,0)) (c:=madeCells zv.cells (b*it.size)) (cs:=y) (by rw [size_madeCells,hyl,hits,hsz]; exact Nat.le_refl _) (Jk _) (fun i v hv=>by
  have hlt:=Cs.lt_of_at hv
  rw [hyl] at hlt
  rw [hya i hlt] at hv
  exact DB (hr φ).1 (hr φ).2 (k:=b*it.size) (by rw [hits,hsz]; exact hlt) hv)
 refine ⟨_,.slice (some ⟨w.heap.size,0,none⟩) a b,_,?_,g4,g3,FW h4 (by rw [size_madeCells,hits,hsz]; exact Nat.le_refl _)⟩
 simp only [execOp,ho,gl,gc,Sem.run_bind,hrun,Result.andThen_ok,Sem.run_pure,Int.toNat_natCast]
end
end Go.Ev

namespace Go.Ev
set_option linter.unusedVariables false
section
variable {P:Program} {ρ:Env} {B N:Nat} {o:Oper} {cf:CF} {t:Regs} {h:Heap} {n:K4}
theorem NL {c:Bool} {x y:R} (_:(br c x y).good):(c=true∧br c x y=x)∨(c=false∧br c x y=y):=by cases c <;> simp [br]
theorem Gam.push {φ:B9} {w:World} (g:Gam ρ B h n φ w) (O:Obj):Gam ρ B h n φ (w.alloc O) where
 base:=by have:=g.base; rw [World.size_alloc]; omega
 glob:=fun b c e fr hb=>⟨(g.glob b c e fr hb).1,by rw [Go.RowKit.Below.heap_alloc w O b (by have:=(g.glob b c e fr hb).1; have:=g.base; omega)]; exact (g.glob b c e fr hb).2⟩
 dom:=g.dom
 blk:=fun q b s t hx=>by have:=g.blk q b s t hx; rw [World.size_alloc]; omega
 obj:=fun q o' b s t hq hx=>C9 (Go.RowKit.Below.heap_alloc w O b (g.blk q b s t hx).2) (g.obj q o' b s t hq hx)
 sep:=g.sep
 sup:=g.sup
theorem Fr.push {φ:B9} {w:World} (O:Obj):Fr h h φ φ n n w (w.alloc O) where
 ext:=B9.le_refl φ
 new:=fun _ _ h=>.inl h
 nn:=Nat.le_refl _
 os:=rfl
 tape:=rfl
 out:=rfl
 size:=by rw [World.size_alloc]; omega
 old:=fun b hb _=>Go.RowKit.Below.heap_alloc w O b hb
 fresh:=fun _ _ _ _ h=>.inl h
 dm:=fun _ _ h=>h
theorem Gam.add {φ:B9} {w:World} (g:Gam ρ B h n φ w) {n':K4} (hn:n'.toN=n.toN+1) {ob:Ob} {b s tot:Nat} (hb:B≤b∧b<w.heap.size)
  (hok:Fd ρ (E7 φ n (b,s,tot)) w ob b s tot) (hsep:∀ q o' s' t',AM q h=some o'->φ q=some (b,s',t')->BQ ob=some q)
  (hsup:∀ q,BQ ob=some q->φ q≠none ∧ ∀ o',AM q h=some o'->Ie o'=true)
  (hold:∀ q o' s' t',AM q h=some o'->φ q=some (b,s',t')->BQ o'=none) :
  Gam ρ B (B6 n h (some ob)) n' (E7 φ n (b,s,tot)) w where
 base:=g.base
 glob:=g.glob
 dom:=fun q x hx=>by
  rcases AY hx with ⟨rfl,_⟩ | ⟨_,hx⟩
  ·omega
  ·have:=g.dom q x hx; omega
 blk:=fun q b1 s1 t1 hx=>by
  rcases AY hx with ⟨rfl,e⟩ | ⟨_,hx⟩
  ·simp only [Prod.mk.injEq] at e; rw [←e.1]; exact hb
  ·exact g.blk q b1 s1 t1 hx
 obj:=fun q o' b1 s1 t1 hq hx=>by
  rcases AY hx with ⟨rfl,e⟩ | ⟨hne,hx⟩
  ·rw [AG] at hq
   simp only [Prod.mk.injEq] at e
   obtain ⟨rfl,rfl,rfl⟩:=e
   cases hq
   exact hok
  ·rw [Ay _ _ hne] at hq
   exact DT (CK g.at_n) (g.obj q o' b1 s1 t1 hq hx)
 sep:=fun q r o1 o2 b1 s1 t1 s2 t2 hne hq hr hx hy=>by
  rcases AY hx with ⟨rfl,e⟩ | ⟨hpq,hx⟩
  ·rcases AY hy with ⟨rfl,_⟩ | ⟨hpr,hy⟩
   ·exact absurd rfl hne
   ·simp only [Prod.mk.injEq] at e
    rw [AG] at hq; cases hq
    rw [Ay _ _ hpr] at hr
    exact .inl (hsep r o2 s2 t2 hr (by rw [hy,e.1]))
  ·rcases AY hy with ⟨rfl,e⟩ | ⟨hpr,hy⟩
   ·simp only [Prod.mk.injEq] at e
    rw [AG] at hr; cases hr
    rw [Ay _ _ hpq] at hq
    exact .inr (hsep q o1 s1 t1 hq (by rw [hx,e.1]))
   ·rw [Ay _ _ hpq] at hq
    rw [Ay _ _ hpr] at hr
    exact g.sep q r o1 o2 b1 s1 t1 s2 t2 hne hq hr hx hy
 sup:=fun q r o1 o2 b1 s1 t1 s2 t2 hq hpr hr hx hy=>by
  rcases AY hx with ⟨rfl,e⟩ | ⟨hnq,hx⟩
  ·rw [AG] at hq; cases hq
   obtain ⟨h1,h2⟩:=hsup r hpr
   have hne:n≠r:=fun e=>h1 (e ▸ g.at_n)
   rw [Ay _ _ hne] at hr
   exact h2 o2 hr
  ·rw [Ay _ _ hnq] at hq
   rcases AY hy with ⟨rfl,e⟩ | ⟨hnr,hy⟩
   ·simp only [Prod.mk.injEq] at e
    have:=hold q o1 s1 t1 hq (by rw [hx,e.1])
    rw [this] at hpr; cases hpr
   ·rw [Ay _ _ hnr] at hr
    exact g.sup q r o1 o2 b1 s1 t1 s2 t2 hq hpr hr hx hy
theorem Fr.add {φ:B9} {w:World} {n':K4} (hφ:φ n=none) (hn:n'.toN=n.toN+1) (ob:Option Ob) {b s tot:Nat}
  (hfr:w.heap.size≤b ∨ ∃ q s' tot',φ q=some (b,s',tot')∧AM q h≠none):Fr h (B6 n h ob) φ (E7 φ n (b,s,tot)) n n' w w where
 ext:=CK hφ
 new:=fun q x hx=>by
  rcases AY hx with ⟨rfl,_⟩ | ⟨_,hx⟩
  ·exact .inr ⟨Nat.le_refl _,by omega⟩
  ·exact .inl hx
 nn:=by omega
 os:=rfl
 tape:=rfl
 out:=rfl
 size:=Nat.le_refl _
 old:=fun b hb _=>rfl
 fresh:=fun q b1 s1 t1 hx=>by
  rcases AY hx with ⟨rfl,e⟩ | ⟨_,hx⟩
  ·simp only [Prod.mk.injEq] at e
   rw [←e.1]
   exact .inr hfr
  ·exact .inl hx
 dm:=fun q hq hn=>by
  have hne:n≠q:=fun e=>hq (e ▸ hφ)
  rw [Ay _ _ hne]; exact hn
theorem Fr.push_add {φ:B9} {w:World} {n':K4} (hφ:φ n=none) (hn:n'.toN=n.toN+1) (ob:Option Ob) (O:Obj) {tot:Nat} :
  Fr h (B6 n h ob) φ (E7 φ n (w.heap.size,0,tot)) n n' w (w.alloc O) :=
 Fr.alloc hφ (by omega) (Nat.le_refl _) (by omega) ob O tot
structure AppSrc (P:Program) (w:World) (ats:Array TypeId) (e:TypeId) (it:TypeInfo) (zv:Value) (x:Value) (m:Nat) (vs:List Value):Prop where
 room:∀ (ty:TypeId) (base:Option Addr) (L C:Nat),L+m≤C->∀ w',(match base with | some a=>(storeCells (a.add (L*it.size)) vs).run P w | none=>.ok () w) = .ok () w' →
  (Builtin.append_ ats ty #[.slice base L C,x]).run P w = .ok (.slice base (L+m) C) w'
 grow:∀ (ty:TypeId) (base:Option Addr) (L C:Nat),C<L+m->L+m≤9223372036854775807->Builtin.nextslicecap (L+m) C*it.bytes≤281474976710656->∀ old:Array Value,(Builtin.firstCells it.size L (.slice base L C)).run P w.drew = .ok old w.drew →
   (Builtin.append_ ats ty #[.slice base L C,x]).run P w = .ok (.slice (some ⟨w.heap.size,0,none⟩) (L+m) (grownCap w (L+m) C e))
    (w.drew.alloc (.cells (old++vs.toArray++Builtin.zeroCells zv.cells (grownCap w (L+m) C e - (L+m))) e))
theorem Nc {w:World} {t u e:TypeId} {it:TypeInfo} {zv:Value} {d:TypeDesc} {x:Value} {m:Nat} {vs:List Value} (ht:P.underlying t=some (.slice e)) (hi:P.info? e=some it) (hz:it.zero=some zv) (hb:0<it.bytes)
  (hu:P.underlying u=some d) (hd:∀ k,d ≠ .int k) (hlen:∀ w,(Builtin.lenOf x).run P w = .ok m w)
  (hv:∀ w',w'.heap=w.heap->(Builtin.firstCells it.size m x).run P w' = .ok vs.toArray w'):AppSrc P w #[t,u] e it zv x m vs:=by
 have hz0:(match d with | .int _=>true | _=>false)=false:=by
  cases d with
  | int k=>exact absurd rfl (hd k)
  | _=>rfl
 refine ⟨fun ty base L C hle w' hw=>?_,fun ty base L C hlt h63 hn old ho=>?_⟩
 ·cases base with
  | none=>simp at hw; subst hw; simp [Builtin.append_,run_underlying ht,run_underlying hu,sizeOf,typeInfo,hz0,hlen,hv w rfl,hle,hi]
  | some a=>simp at hw; simp [Builtin.append_,run_underlying ht,run_underlying hu,sizeOf,typeInfo,hz0,hlen,hv w rfl,hle,hi,hw]
 ·have hn':¬ (281474976710656<Builtin.nextslicecap (L+m) C*it.bytes):=by omega
  have hle:¬ (L+m≤C):=by omega
  have hby:it.bytes≠0:=by omega
  simp [Builtin.append_,run_underlying ht,run_underlying hu,sizeOf,typeInfo,hz0,hlen,hle,hn',hby,hi,Question.forced,ho,hv w.drew rfl,zeroValue,hz,newRow,grownCap]
theorem Nr {w:World} {t u e:TypeId} {it:TypeInfo} {zv:Value} {ku k:IntKind} {m:Nat} (ht:P.underlying t=some (.slice e)) (hi:P.info? e=some it) (hz:it.zero=some zv) (hb:0<it.bytes) (h0:0<it.size)
  (hu:P.underlying u=some (.int ku)) (hm:m*it.bytes≤281474976710656):AppSrc P w #[t,u] e it zv (.int k m) m (Builtin.zeroCells zv.cells m).toList:=by
 have hm1:m≤281474976710656:=Nat.le_trans (Nat.le_mul_of_pos_right m hb) hm
 have hwrap:IntKind.i64.wrap (m:Int)=(m:Int):=by
  have hH:m<Hk .i64:=by show m<9223372036854775808; omega
  rw [Ez .i64 m (Nat.lt_of_lt_of_le hH (Gg _)),AI hH]
 have h1:¬ ((m:Int)<0):=by omega
 have h2:¬ ((281474976710656:Int)<(m:Int)*(it.bytes:Int)):=by
  rw [←Int.natCast_mul]; have:=Int.ofNat_le.2 hm; omega
 have hz0:m*it.size=0->m=0:=fun h=>by rcases Nat.mul_eq_zero.1 h with h | h <;> omega
 have hzc:Builtin.zeroCells zv.cells 0 = #[]:=Array.eq_empty_of_size_eq_zero (by simp [Builtin.zeroCells])
 refine ⟨fun ty base L C hle w' hw=>?_,fun ty base L C hlt h63 hn old ho=>?_⟩
 ·cases base with
  | none =>
   simp at hw; subst hw
   simp [Builtin.append_,run_underlying ht,run_underlying hu,sizeOf,typeInfo,asInt,asIntOf,hwrap,h1,h2,hle,hi,zeroValue,hz]
  | some a =>
   simp at hw
   simp [Builtin.append_,run_underlying ht,run_underlying hu,sizeOf,typeInfo,asInt,asIntOf,hwrap,h1,h2,hle,hi,zeroValue,hz,hw]
   intro hm0; have:=hz0 hm0; subst this; rw [hzc] at hw; simp at hw; simp [hw]
 ·have hn':¬ (281474976710656<Builtin.nextslicecap (L+m) C*it.bytes):=by omega
  have hle:¬ (L+m≤C):=by omega
  have h63':¬ ((9223372036854775807:Int)<((L:Int)+(m:Int))):=by omega
  simp [Builtin.append_,run_underlying ht,run_underlying hu,sizeOf,typeInfo,asInt,asIntOf,hwrap,h1,h2,hle,hn',h63',hi,Question.forced,ho,zeroValue,hz,newRow,grownCap]
  intro hm0; have:=hz0 hm0; subst this; rw [hzc]; simp
theorem QP {φ:B9} {w:World} (g:Gam ρ B h n φ w) {p:K4} {cs y:Cs} {sup:Bool} {prev:Option K4} {b s tot off m:Nat} (hp:AM p h=some (.c cs sup prev)) (hφ:φ p=some (b,s,tot)) (hyl:y.len=m) (hya:∀ i,i<m->y.at i=cs.at (off+i)) :
  ∃ vs:List Value,vs.length=m∧(∀ v∈vs,v.oneCell'=true)∧Ef ρ φ y (fun i=>vs[i]?) ∧ ∀ w':World,w'.heap=w.heap->(loadCells ⟨b,s+off,none⟩ m).run P w' = .ok vs.toArray w':=by
 obtain ⟨c,e,fr,k1,k2,k3,k4,k5⟩:=g.obj p _ b s tot hp hφ
 have hr:=Gx k5 hyl hya
 obtain ⟨vs,q1,q2,q3,q4⟩:=HY hr
 refine ⟨vs,by rw [q1,hyl],q3,fun i v hv=>?_,fun w' hw'=>?_⟩
 ·have hi:=Cs.lt_of_at hv
  obtain ⟨x,hx,hrx,ho⟩:=hr i v hv
  have:=q2 i _ (List.getElem?_eq_getElem (by rw [q1]; exact hi))
  have hx':c[s+(off+i)]? = some x:=hx
  rw [hx'] at this
  cases this
  exact ⟨_,List.getElem?_eq_getElem (by rw [q1]; exact hi),hrx,ho⟩
 ·have hrun:=Fi (P:=P) (w:=w') (off:=s+off) vs (by rw [hw']; exact k1) (fun j v hj=>by have:=q2 j v hj; rwa [←Nat.add_assoc] at this)
  rwa [q1,hyl] at hrun
structure Src (P:Program) (ρ:Env) (φ:B9) (w:World) (ats:Array TypeId) (e:TypeId) (it:TypeInfo) (zv:Value) (x:Value) (m:Nat) (y:Cs):Prop where
 ex:∃ vs:List Value,vs.length=m*it.size∧y.len=m*it.size∧(∀ v∈vs,v.oneCell'=true)∧Ef ρ φ y (fun i=>vs[i]?)∧AppSrc P w ats e it zv x m vs
theorem L4 {φ:B9} {z:Cs} {c:Array Value} {xs:List Value} (hc:∀ i:Nat,i<xs.length->c[i]? = xs[i]?) (hl:z.len=xs.length) (hk:Ef ρ φ z fun i=>xs[i]?):Ef ρ φ z fun i=>c[i]?:=fun i v hv=>by
 have hi:=Cs.lt_of_at hv
 obtain ⟨x,hx,hr⟩:=hk i v hv
 exact ⟨x,(hc i (by omega)).trans hx,hr⟩
theorem Nj {φ:B9} {a y z:Cs} {xs ys:List Value} (hz:Qs a y z) (ha:a.len=xs.length) (hy:y.len=ys.length) (h1:Ef ρ φ a fun i=>xs[i]?) (h2:Ef ρ φ y fun i=>ys[i]?):Ef ρ φ z fun i=>(xs++ys)[i]?:=fun i v hv=>by
 by_cases hi:i<a.len
 ·rw [hz.2.1 i hi] at hv
  obtain ⟨x,hx,hr⟩:=h1 i v hv
  exact ⟨x,by show (xs++ys)[i]? = some x; rw [List.getElem?_append_left (by omega)]; exact hx,hr⟩
 ·obtain ⟨j,rfl⟩:∃ j,i=a.len+j:=⟨i - a.len,by omega⟩
  rw [hz.2.2 j] at hv
  obtain ⟨x,hx,hr⟩:=h2 j v hv
  exact ⟨x,by show (xs++ys)[a.len+j]? = some x; rw [List.getElem?_append_right (by omega),ha,Nat.add_sub_cancel_left]; exact hx,hr⟩
def TX (P:Program) (ρ:Env) (B:Nat) (ats:Array TypeId) (e:TypeId) (it:TypeInfo) (zv:Value) (u:V) (m:Nat) (y:Cs) (h:Heap) (n:K4) (v:V) (h1:Heap) (n1:K4):Prop :=
 ∀ (φ:B9) (w:World) (S x:Value) (ty:TypeId),Gam ρ B h n φ w->AL ρ φ u S->Src P ρ φ w ats e it zv x m y →
  ∃ φ' X w',(Builtin.append_ ats ty #[S,x]).run P w = .ok X w'∧Fr h h1 φ φ' n n1 w w'∧Gam ρ B h1 n1 φ' w'∧AL ρ φ' v X
theorem fits {need C eb:Nat} (h:(4*need+4096)*eb≤281474976710656) (hC:C<need):Builtin.nextslicecap need C*eb≤281474976710656:=by
 have h1:=nextslicecap_le hC
 exact Nat.le_trans (Nat.mul_le_mul_right eb (show Builtin.nextslicecap need C≤4*need+4096 by omega)) h
theorem Vr {need eb:Nat} (h:(4*need+4096)*eb≤281474976710656) (hb:0<eb):need≤9223372036854775807:=by
 have:4*need+4096≤281474976710656:=Nat.le_trans (Nat.le_mul_of_pos_right _ hb) h
 omega
theorem JR {φ:B9} {w:World} {ats:Array TypeId} {e:TypeId} {it:TypeInfo} {zv:Value} {x:Value} {m L C:Nat} {z:Cs} {vs olds:List Value} {base:Option Addr} {ty:TypeId} (hz:zv.cells.size=it.size)
  (ha:AppSrc P w ats e it zv x m vs) (hC:C<L+m) (hb:0<it.bytes) (hfit:(4*(L+m)+4096)*it.bytes≤281474976710656) (ho:(Builtin.firstCells it.size L (.slice base L C)).run P w.drew = .ok olds.toArray w.drew)
  (hvl:vs.length=m*it.size) (hol:olds.length=L*it.size) (hzl:z.len=olds.length+vs.length) (hcs:Ef ρ φ z fun i=>(olds++vs)[i]?) :
  ∃ (cap:Nat) (c:Array Value),L+m≤cap∧c.size=cap*it.size∧z.len≤c.size∧Ef ρ φ z (fun i=>c[i]?) ∧
   (Builtin.append_ ats ty #[.slice base L C,x]).run P w = .ok (.slice (some ⟨w.heap.size,0,none⟩) (L+m) cap) (w.drew.alloc (.cells c e)):=by
 have hge:=grownCap_ge w (L+m) C e
 have hrun:=ha.grow ty base L C hC (Vr hfit hb) (fits hfit hC) olds.toArray ho
 have hmul:L*it.size+(m*it.size+(grownCap w (L+m) C e - (L+m))*it.size)=grownCap w (L+m) C e*it.size:=by
  rw [←Nat.add_mul,←Nat.add_mul]; congr 1; omega
 refine ⟨grownCap w (L+m) C e,_,hge,?_,?_,?_,hrun⟩
 ·simp only [Array.size_append,List.size_toArray,size_zeroCells,hol,hvl,hz]; omega
 ·simp only [Array.size_append,List.size_toArray,hzl]; omega
 ·refine L4 (xs:=olds++vs) (fun i hi=>?_) (by rw [hzl]; simp) hcs
  rw [Array.getElem?_append_left (by simpa using hi)]
  simp [Array.getElem?_append,List.getElem?_append]
theorem FK {φ:B9} {p:K4} {b tot m cap esz:Nat} (h1:m≤cap) (h2:cap*esz≤tot):AL ρ (E7 φ p (b,0,tot)) (.sl p 0 m m false esz) (.slice (some ⟨b,0,none⟩) m cap):=by
 simp only [AL]
 exact ⟨b,0,tot,0,cap,BT _ _ _,rfl,Nat.le_refl _,h1,(fun h=>by cases h),fun _=>⟨rfl,by omega⟩⟩
theorem Ik {ats:Array TypeId} {e:TypeId} {it:TypeInfo} {zv:Value} {u:V} {m:Nat} {y:Cs} {κ:KV} (hzs:zv.cells.size=it.size) (hs0:0<it.size) (hb0:0<it.bytes)
  (hg:(DX it.size it.bytes u m y h n κ).good):∃ v h1 n1,DX it.size it.bytes u m y h n κ=κ v h1 n1∧TX P ρ B ats e it zv u m y h n v h1 n1:=by
 rcases CD (show R.good (CU u _ _) from hg) with ⟨hu,e1⟩ | ⟨p,off,len,cap,ex,esz,hu,e1⟩
 ·have e1:DX it.size it.bytes u m y h n κ=_:=e1
  rw [e1] at hg
  subst hu
  rcases NL hg with ⟨h2,e2⟩ | ⟨h2,e2⟩
  ·have h2:=Nat.eq_of_beq_eq_true h2
   subst h2
   refine ⟨.nil .sl,h,n,e1.trans e2,fun φ w S x ty g hS hx=>?_⟩
   obtain ⟨vs,hvl,hyl,hv1,hcs,ha⟩:=hx.ex
   have hS:=BS hS
   subst hS
   exact ⟨φ,.slice none 0 0,w,ha.room ty none 0 0 (by omega) w rfl,Fr.refl h φ n w,g,by simp only [AL,C8]⟩
  ·rw [e2] at hg
   obtain ⟨h3,e3⟩:=Ap hg
   rw [e3] at hg
   have h3:(4*m+4096)*it.bytes≤281474976710656:=Ar.1 h3
   obtain ⟨n',hn,e4⟩:=Bq hg
   refine ⟨_,_,_,e1.trans (e2.trans (e3.trans e4)),fun φ w S x ty g hS hx=>?_⟩
   obtain ⟨vs,hvl,hyl,hv1,hcs,ha⟩:=hx.ex
   have hS:=BS hS
   subst hS
   have hm:0<m:=Nat.pos_of_ne_zero fun h0=>by subst h0; simp at h2
   obtain ⟨rc,c,k1,k2,k3,k4,k5⟩:=JR (P:=P) (base:=none) (L:=0) (C:=0) (olds:=[]) (z:=y) (ty:=ty) hzs ha (by omega) hb0 (by rw [Nat.zero_add]; exact h3) (by simp [Builtin.firstCells]) hvl (by simp) (by rw [hyl,hvl]; simp) (by simpa using hcs)
   obtain ⟨g1,g2⟩:=Ct g.drew hn (e:=e) (fr:=(0,0)) (c:=c) (cs:=y) k3 (Jk _) k4
   rw [Nat.zero_add] at k1 k5
   exact ⟨_,_,_,k5,Fr.trans Fr.drew g2,g1,FK k1 (by omega)⟩
 ·have e1:DX it.size it.bytes u m y h n κ=_:=e1
  rw [e1] at hg
  obtain ⟨h2,e2⟩:=Ap hg
  have h2:=Nat.eq_of_beq_eq_true h2
  subst h2
  rw [e2] at hg
  rcases NL hg with ⟨h3,e3⟩ | ⟨h3,e3⟩
  ·have h3:=Nat.eq_of_beq_eq_true h3
   subst h3
   refine ⟨u,h,n,e1.trans (e2.trans e3),fun φ w S x ty g hS hx=>?_⟩
   obtain ⟨vs,hvl,hyl,hv1,hcs,ha⟩:=hx.ex
   have hS':=hS
   rw [hu] at hS'
   obtain ⟨b,s,tot,q,cap',hφ,gx,c1,c2,c3,c4⟩:=CG hS'
   have hvs:vs=[]:=List.eq_nil_of_length_eq_zero (by simpa using hvl)
   subst hvs
   subst gx
   exact ⟨φ,_,w,ha.room ty _ len cap' (by omega) w rfl,Fr.refl h φ n w,g,hS⟩
  ·have hm:0<m:=Nat.pos_of_ne_zero fun h0=>by subst h0; simp at h3
   rw [e3,Ai] at hg
   rcases NL hg with ⟨h4,e4⟩ | ⟨h4,e4⟩
   ·have h4:len+m≤cap:=Ar.1 h4
    rw [e4,Ai] at hg
    obtain ⟨cs,prev,z,hp,hz,e5⟩:=EV hg
    refine ⟨_,_,n,e1.trans (e2.trans (e3.trans ((Ai _ _).trans (e4.trans ((Ai _ _).trans e5))))),fun φ w S x ty g hS hx=>?_⟩
    obtain ⟨vs,hvl,hyl,hv1,hcs,ha⟩:=hx.ex
    rw [hu] at hS
    obtain ⟨b,s,tot,q,cap',hφ,gx,c1,c2,c3,c4⟩:=CG hS
    subst gx
    obtain ⟨c5,c6⟩:=c4 (by omega)
    obtain ⟨w',q1,q2,q3⟩:=EY (P:=P) g hp hφ hz (vs:=vs) (by rw [hvl,hyl]) (fun i v hi=>let ⟨x,hx,hr,_⟩:=hcs i v hi; ⟨x,hx,hr⟩) hv1
    refine ⟨φ,_,w',ha.room ty (some ⟨b,q,none⟩) len cap' (by omega) w' ?_,q3,q2,?_⟩
    ·show (storeCells ((⟨b,q,none⟩:Addr).add (len*it.size)) vs).run P w=_
     rw [CR,c5,←q1]; congr 2; simp only [Nat.add_eq,Nat.mul_eq,Nat.add_assoc]
    ·simp only [AL]
     exact ⟨b,s,tot,q,cap',hφ,rfl,h4,c2,c3,c4⟩
   ·rw [e4] at hg
    obtain ⟨h5,e5⟩:=Ap hg
    rw [e5] at hg
    have h5:(4*(len+m)+4096)*it.bytes≤281474976710656:=Ar.1 h5
    have h4:¬ len+m≤cap:=fun h'=>by rw [show Nat.ble (Nat.add len m) cap=true from Ar.2 h'] at h4; cases h4
    obtain ⟨cs,sup,prev,hp,e6⟩:=CP hg
    rw [e6,Ai] at hg
    obtain ⟨hle,a,hal,haa,e7⟩:=Cu hg
    rw [e7] at hg
    obtain ⟨z,hz,e8⟩:=TW a y (fun z=>br ex
       (D0 h n (.c z false none) fun h' n'=>κ (.sl n 0 (Nat.add len m) (Nat.add len m) false it.size) h' n')
       (br sup (.fail "")
        (Ak (Nat.add off (Nat.mul len it.size)) fun j=>BW cs 0 j fun old=>Me prev h fun h=>Fy p h (some (.c old true none)) fun h =>
         D0 h n (.c z false (some p)) fun h' n'=>κ (.sl n 0 (Nat.add len m) (Nat.add len m) false it.size) h' n')))
    have e8:=e8
    rw [e8] at hg
    have hal:a.len=len*it.size:=hal
    have head:=e1.trans (e2.trans (e3.trans ((Ai _ _).trans (e4.trans (e5.trans (e6.trans ((Ai _ _).trans (e7.trans e8))))))))
    -- what the old slice holds
    have oldv:∀ φ w,Gam ρ B h n φ w->∀ b s tot q cap',φ p=some (b,s,tot)->len≤cap'->(0<cap'->q=s+off∧q+cap'*it.size≤tot) →
      ∃ olds:List Value,olds.length=len*it.size∧Ef ρ φ a (fun i=>olds[i]?)∧(∀ v∈olds,v.oneCell'=true)∧(Builtin.firstCells it.size len (.slice (some ⟨b,q,none⟩) len cap')).run P w.drew = .ok olds.toArray w.drew:=fun φ w g b s tot q cap' hφ hlc c4=>by
     obtain ⟨olds,o1,o2,o3,o4⟩:=QP (P:=P) g hp hφ hal (fun i hi=>haa i hi)
     refine ⟨olds,o1,o3,o2,?_⟩
     rcases Nat.eq_zero_or_pos cap' with h0 | h0
     ·have hl0:len=0:=by omega
      subst hl0
      have:olds=[]:=List.eq_nil_of_length_eq_zero (by simpa using o1)
      subst this
      simp [Builtin.firstCells]; rfl
     ·rw [(c4 h0).1]
      exact o4 w.drew rfl
    cases ex with
    | true =>
     obtain ⟨n',hn,e9⟩:=Bq (show R.good (D0 h n (.c z false none) fun h' n'=>κ (.sl n 0 (Nat.add len m) (Nat.add len m) false it.size) h' n') from hg)
     refine ⟨_,_,_,head.trans e9,fun φ w S x ty g hS hx=>?_⟩
     obtain ⟨vs,hvl,hyl,hv1,hcs,ha⟩:=hx.ex
     rw [hu] at hS
     obtain ⟨b,s,tot,q,cap',hφ,gx,c1,c2,c3,c4⟩:=CG hS
     subst gx
     have hcap:=c3 rfl
     obtain ⟨olds,o1,o2,o3,o4⟩:=oldv φ w g b s tot q cap' hφ (by omega) c4
     obtain ⟨rc,c,k1,k2,k3,k4,k5⟩:=JR (P:=P) (z:=z) (ty:=ty) hzs ha (by omega) hb0 h5 o4 hvl o1 (by rw [hz.1,hal,hyl,o1,hvl]) (Nj hz (by rw [hal,o1]) (by rw [hyl,hvl]) o2 hcs)
     obtain ⟨g1,g2⟩:=Ct g.drew hn (e:=e) (fr:=(0,0)) (c:=c) (cs:=z) k3 (Jk _) k4
     exact ⟨_,_,_,k5,Fr.trans Fr.drew g2,g1,FK k1 (by omega)⟩
    | false =>
     have eF:∀ (A C:R),br false A C=C:=fun _ _=>rfl
     rw [eF] at hg
     obtain ⟨h9,e9⟩:=Fu hg
     subst h9
     rw [eF,Ai] at hg
     obtain ⟨hle2,old,hol,hoa,e10⟩:=Cu hg
     rw [e10,KK,BB] at hg
     obtain ⟨n',hn,e11⟩:=Bq hg
     refine ⟨_,_,_,head.trans (Eq.trans (eF _ _) (Eq.trans (eF _ _) ((Ai _ _).trans (e10.trans ((KK _ _ _).trans ((BB _ _ _ _).trans e11)))))),fun φ w S x ty g hS hx=>?_⟩
     obtain ⟨vs,hvl,hyl,hv1,hcs,ha⟩:=hx.ex
     rw [hu] at hS
     obtain ⟨b,s,tot,q,cap',hφ,gx,c1,c2,c3,c4⟩:=CG hS
     subst gx
     obtain ⟨olds,o1,o2,o3,o4⟩:=oldv φ w g b s tot q cap' hφ (by omega) c4
     obtain ⟨c,et,fr,k1,k2,k3,k4,k5⟩:=g.obj p _ b s tot hp hφ
     have hcz:=Nj hz (by rw [hal,o1]) (by rw [hyl,hvl]) o2 hcs
     have hb:=g.blk p b s tot hφ
     have hol:old.len=off+len*it.size:=hol
     -- what the new object has beside it
     have hsep:∀ q' o' s' t',AM q' (B6 p (FY prev h) (some (.c old true none)))=some o'->φ q'=some (b,s',t')->BQ (.c z false (some p))=some q':=fun q' o' s' t' hq' hφ'=>by
      by_cases hqp:p=q'
      ·subst hqp; rfl
      ·rw [Ay _ _ hqp] at hq'
       obtain ⟨r1,r2⟩:=CY hq'
       rcases g.sep p q' _ o' b s tot s' t' hqp hp r2 hφ hφ' with h' | h'
       ·exact absurd h' r1
       ·have:=g.sup q' p o' _ b s' t' s tot r2 h' hp hφ' hφ
        simp [Ie] at this
     have hsup:∀ q',BQ (.c z false (some p))=some q'->φ q'≠none ∧ ∀ o',AM q' (B6 p (FY prev h) (some (.c old true none)))=some o'->Ie o'=true:=fun q' hq'=>by
      simp only [BQ,Option.some.injEq] at hq'; subst hq'
      exact ⟨by rw [hφ]; simp,fun o' ho'=>by rw [AG] at ho'; cases ho'; rfl⟩
     have hzl:z.len=len*it.size+m*it.size:=by rw [hz.1,hal,hyl]
     by_cases hin:len+m≤cap'
     ·obtain ⟨c5,c6⟩:=c4 (by omega)
      have hmul:len*it.size+m*it.size≤cap'*it.size:=by rw [←Nat.add_mul]; exact Nat.mul_le_mul_right _ hin
      obtain ⟨c',q1,q2,q3,q4⟩:=GA (P:=P) vs w b (q+len*it.size) 0 c et fr k1 (by rw [hvl,k2]; omega) (by rw [k2]; exact k4) hv1
      have g2:=g.write (o:=.c cs false prev) (o':=.c old true none) (O:=.cells c' et fr) hp hφ rfl rfl ⟨c',et,fr,Dm hb.2,by rw [q1,k2],by rw [hol]; omega,k4,fun i v hi=>by
       have hlt:=Cs.lt_of_at hi
       rw [hoa i (by have:=hlt; rw [hol] at this; exact this),Nat.zero_add] at hi
       obtain ⟨X,hX,hr⟩:=k5 i v hi
       exact ⟨X,by show c'[s+i]? = some X; rw [q2 (s+i) (by rw [hol] at hlt; omega)]; exact hX,hr⟩⟩
      have g3:=g2.add hn (ob:=.c z false (some p)) (b:=b) (s:=s+off) (tot:=tot) (by rw [DS]; exact hb) ⟨c',et,fr,Dm hb.2,by rw [q1,k2],by rw [hzl]; omega,k4,Fp (CK g.at_n) fun i v hi=>by
       by_cases hia:i<a.len
       ·rw [hz.2.1 i hia,haa i (by have:=hia; rw [hal] at this; exact this)] at hi
        obtain ⟨X,hX,hr⟩:=k5 (off+i) v hi
        exact ⟨X,by show c'[s+off+i]? = some X; rw [Nat.add_assoc,q2 (s+(off+i)) (by rw [hal] at hia; omega)]; exact hX,hr⟩
       ·obtain ⟨j,rfl⟩:∃ j,i=a.len+j:=⟨i - a.len,by omega⟩
        rw [hz.2.2 j] at hi
        obtain ⟨X,hX,hr⟩:=hcs j v hi
        refine ⟨X,?_,hr⟩
        have:=q3 j X hX
        show c'[s+off+(a.len+j)]? = some X
        rw [←this]; congr 1; rw [hal]; omega⟩ hsep hsup (fun q' o' s' t' hq' hφ'=>by
       have:=hsep q' o' s' t' hq' hφ'
       simp only [BQ,Option.some.injEq] at this; subst this
       rw [AG] at hq'; cases hq'; rfl)
      refine ⟨_,_,_,ha.room ty (some ⟨b,q,none⟩) len cap' hin _ (by show (storeCells ((⟨b,q,none⟩:Addr).add (len*it.size)) vs).run P w=_; rw [CR]; exact q4),
       Fr.trans (Fr.write (o:=.c cs false prev) hp hφ) (Fr.add g.at_n hn _ (.inr ⟨p,s,tot,hφ,by rw [AG]; simp⟩)),g3,?_⟩
      simp only [AL]
      exact ⟨b,s+off,tot,q,cap',BT _ _ _,rfl,Nat.le_refl _,hin,(fun h=>by cases h),fun _=>⟨by omega,c6⟩⟩
     ·obtain ⟨rc,c',r1,r2,r3,r4,r5⟩:=JR (P:=P) (z:=z) (ty:=ty) hzs ha (by omega) hb0 h5 o4 hvl o1 (by rw [hz.1,hal,hyl,o1,hvl]) hcz
      have g2:=g.write (o:=.c cs false prev) (o':=.c old true none) (O:=.cells c et fr) hp hφ rfl rfl ⟨c,et,fr,Dm hb.2,k2,by rw [hol]; have:=k3; omega,k4,fun i v hi=>by
       have hlt:=Cs.lt_of_at hi
       rw [hoa i (by have:=hlt; rw [hol] at this; exact this),Nat.zero_add] at hi
       exact k5 i v hi⟩
      have f2:=Fr.write (o:=.c cs false prev) (o':=some (.c old true none)) (n:=n) (w:=w) (O:=.cells c et fr) hp hφ
      rw [PG k1] at g2 f2
      have g3:=(g2.drew.push (.cells c' e)).add hn (ob:=.c z false (some p)) (b:=w.heap.size) (s:=0) (tot:=c'.size) (by rw [World.size_alloc]; have:=g.base; exact ⟨this,Nat.lt_succ_self _⟩)
       ⟨c',e,(0,0),Ii (w:=w.drew),rfl,by omega,Jk _,Fp (CK g.at_n) fun i v hi=>by rw [Nat.zero_add]; exact r4 i v hi⟩
       (fun q' o' s' t' _ hφ'=>by have:=(g.blk q' _ s' t' hφ').2; omega) hsup (fun q' o' s' t' _ hφ'=>by have:=(g.blk q' _ s' t' hφ').2; omega)
      exact ⟨_,_,_,r5,Fr.trans f2 (Fr.trans Fr.drew (Fr.push_add g.at_n hn _ _)),g3,FK r1 (by rw [r2]; exact Nat.le_refl _)⟩
theorem QF (φ:B9) (s:ByteArray):Ef ρ φ (.b s.size (B5 s.data.toList)) (fun i=>(s.data.toList.map fun b=>Value.int .u8 b.toNat)[i]?):=fun i v hv=>by
 have hi:i<s.size:=Cs.lt_of_at hv
 rw [Cs.b_pos hi] at hv
 have hi':i<s.data.toList.length:=by rw [BH]; exact hi
 rw [HK _ _ hi'] at hv
 cases hv
 have hlt:=s.data.toList[i].toNat_lt
 refine ⟨.int .u8 (s.data.toList[i].toNat:Nat),?_,?_,rfl⟩
 ·show (s.data.toList.map fun b=>Value.int .u8 b.toNat)[i]? = _
  rw [List.getElem?_map,List.getElem?_eq_getElem hi']; rfl
 ·simp only [AL]
  exact ⟨by simp [Mk]; exact hlt,by rw [AI (by simp [Hk]; exact hlt)]⟩
def WH (P:Program) (ρ:Env) (B:Nat) (v:V) (h:Heap) (n:K4) (esz m:Nat) (y:Cs):Prop :=
 y.len=m*esz ∧ ∀ φ w X,Gam ρ B h n φ w->AL ρ φ v X->∃ vs:List Value,vs.length=m*esz∧(∀ x∈vs,x.oneCell'=true)∧Ef ρ φ y (fun i=>vs[i]?)∧(∀ w,(Builtin.lenOf X).run P w = .ok m w) ∧
  ∀ (k:Nat) (w':World),k≤m->w'.heap=w.heap->(Builtin.firstCells esz k X).run P w' = .ok (vs.take (k*esz)).toArray w'
theorem IE:∀ (m i:Nat),(J4 m i).length=m
 | 0,_=>rfl
 | m+1,i=>congrArg (· + 1) (IE m (i+1))
theorem NW:∀ {m i j:Nat},j<m->(J4 m i)[j]? = some (.oth (.sy .i64 (i+j)))
 | 0,_,_,h=>by omega
 | m+1,i,0,_=>rfl
 | m+1,i,j+1,h=>by
  have e:(J4 (m+1) i)[j+1]? = (J4 m (i+1))[j]?:=rfl
  rw [e,NW (by omega),show i+1+j=i+(j+1) by omega]
theorem Md {esz:Nat} {v:V} {κ:Nat->Cs->R} (hg:(N5 esz v h κ).good):∃ m y,N5 esz v h κ=κ m y∧WH P ρ B v h n esz m y:=by
 cases v with
 | sl p off len cap ex esz' =>
  obtain ⟨h1,e1⟩:=Ap (show R.good (br (Nat.beq esz' esz) _ _) from hg)
  have h1:=Nat.eq_of_beq_eq_true h1
  subst h1
  have e1:N5 esz' (.sl p off len cap ex esz') h κ=_:=e1
  rw [e1] at hg
  obtain ⟨cs,sup,prev,hp,e2⟩:=CP hg
  rw [e2,Ai] at hg
  obtain ⟨hle,y,hyl,hya,e3⟩:=Cu hg
  have hyl:y.len=len*esz':=hyl
  refine ⟨len,y,e1.trans (e2.trans ((Ai _ _).trans e3)),hyl,fun φ w X g hX=>?_⟩
  obtain ⟨b,s,tot,q,cap',hφ,gx,c1,c2,c3,c4⟩:=CG hX
  subst gx
  obtain ⟨c,e,fr,k1,k2,k3,k4,k5⟩:=g.obj p _ b s tot hp hφ
  have hr:=Gx k5 hyl (fun i hi=>hya i hi)
  obtain ⟨vs,q1,q2,q3,q4⟩:=HY hr
  refine ⟨vs,by rw [q1,hyl],q3,fun i u hu=>?_,fun w=>rfl,fun k w' hk hw'=>?_⟩
  ·have hi:=Cs.lt_of_at hu
   obtain ⟨x,hx,hrx,ho⟩:=hr i u hu
   have:=q2 i _ (List.getElem?_eq_getElem (by rw [q1]; exact hi))
   have hx':c[s+(off+i)]? = some x:=hx
   rw [hx'] at this
   cases this
   exact ⟨_,List.getElem?_eq_getElem (by rw [q1]; exact hi),hrx,ho⟩
  ·show (loadCells ⟨b,q,none⟩ (k*esz')).run P w'=_
   have hlen:(vs.take (k*esz')).length=k*esz':=by rw [List.length_take,q1,hyl]; exact Nat.min_eq_left (Nat.mul_le_mul_right _ hk)
   rcases Nat.eq_zero_or_pos cap' with h0 | h0
   ·have hk0:k=0:=by omega
    subst hk0
    simp; rfl
   ·have hrun:=Fi (P:=P) (w:=w') (off:=s+off) (vs.take (k*esz')) (by rw [hw']; exact k1) (fun j v hj=>by
     have hj':vs[j]? = some v:=by
      rw [List.getElem?_take] at hj
      split at hj
      ·exact hj
      ·cases hj
     have:=q2 j v hj'; rwa [←Nat.add_assoc] at this)
    rw [hlen] at hrun
    rw [(c4 h0).1]; exact hrun
 | str m c =>
  obtain ⟨h1,e1⟩:=Ap (show R.good (br (Nat.beq esz 1) _ _) from hg)
  have h1:=Nat.eq_of_beq_eq_true h1
  subst h1
  refine ⟨m,.b m c,e1,by simp [Cs.len],fun φ w X g hX=>?_⟩
  obtain ⟨s,gx,hs,hc⟩:=Ci hX
  subst gx hs hc
  refine ⟨s.data.toList.map fun b=>Value.int .u8 b.toNat,by simp [BH],by simp [Value.oneCell'],QF φ s,fun w=>rfl,fun k w' hk _=>?_⟩
  have:(s.extract 0 k).data.map (fun b:UInt8=>Value.int .u8 b.toNat)=((s.data.toList.map fun b=>Value.int .u8 b.toNat).take (k*1)).toArray:=by
   apply Array.ext'
   simp [ByteArray.data_extract,List.map_take]
  simp only [Builtin.firstCells,Sem.run_pure,this]
 | nil w =>
  cases w with
  | sl =>
   refine ⟨0,.l [],rfl,by simp [Cs.len],fun φ w X g hX=>?_⟩
   have:=BS hX
   subst this
   exact ⟨[],by simp,by simp,fun i v hv=>by simp [Cs.at] at hv,fun w=>rfl,fun k w' _ _=>by simp [C8,Builtin.firstCells]⟩
  | _=>exact hg.elim
 | oth oo =>
  cases oo with
  | ro i l0 l1 z =>
   have hg':R.good (br (Nat.beq z esz) (br (Nat.beq l0 l1) (br (and (Nat.ble 1 i) (Nat.ble i 18446744073709551615)) (Ak (Nat.mul l0 esz) fun m=>κ l0 (.l (J4 m i))) (.fail "")) (.fail "")) (.fail "")):=hg
   obtain ⟨h1,e1⟩:=Ap hg'
   rw [e1] at hg'
   obtain ⟨h2,e2⟩:=Ap hg'
   rw [e2] at hg'
   obtain ⟨h3,e3⟩:=Ap hg'
   have h1:=Nat.eq_of_beq_eq_true h1
   have h2:=Nat.eq_of_beq_eq_true h2
   rw [Bool.and_eq_true] at h3
   have h3':=Ar.1 h3.2
   have h3:=Ar.1 h3.1
   subst h1
   subst h2
   refine ⟨l0,.l (J4 (l0*z) i),e1.trans (e2.trans (e3.trans (Ai _ _))),IE _ _,fun φ w X g hX=>?_⟩
   simp only [AL] at hX
   obtain ⟨b,q,len,cap,c,e,fr,rfl,c1,c2,c3,c4,c5⟩:=hX
   obtain rfl:len=l0:=by omega
   have one:∀ j y,R5 ρ i j y->y.oneCell'=true:=fun j y hy=>by
    rcases hy with ⟨_,b,rfl⟩ | ⟨_,_,_,r,_,rfl⟩ | ⟨_,_,b,rfl,_⟩ | ⟨_,_,r,_,rfl⟩ | ⟨_,y0,rfl,_,_,_⟩ <;> rfl
   obtain ⟨vs,hl,AM⟩:∃ vs:List Value,vs.length=len*z ∧ ∀ j,j<len*z->vs[j]? = c[q+j]?:=by
    refine ⟨(List.range (len*z)).map fun j=>(c[q+j]?).getD undef,by simp,fun j hj=>?_⟩
    obtain ⟨y,y1,_⟩:=c5 j hj
    rw [List.getElem?_map,List.getElem?_range hj]
    simp [y1]
   refine ⟨vs,hl,fun x hx=>?_,fun j v hv=>?_,fun w=>rfl,fun k w' hk hw'=>?_⟩
   ·obtain ⟨j,hj,rfl⟩:=List.getElem_of_mem hx
    have hj':j<len*z:=by rw [←hl]; exact hj
    obtain ⟨y,y1,y2⟩:=c5 j hj'
    have e5:=AM j hj'
    rw [y1,List.getElem?_eq_getElem hj] at e5
    rw [Option.some.inj e5]
    exact one j y y2
   ·have hj:=Cs.lt_of_at hv
    have hj:j<len*z:=by rw [←IE (len*z) i]; exact hj
    have hv:(J4 (len*z) i)[j]? = some v:=hv
    rw [NW hj] at hv
    cases hv
    obtain ⟨y,y1,y2⟩:=c5 j hj
    refine ⟨y,(AM j hj).trans y1,?_,one j y y2⟩
    rcases y2 with ⟨h,_⟩ | ⟨_,_,h5,r,h6,h7⟩ | ⟨h,_⟩ | ⟨h,_⟩ | ⟨h,_⟩
    ·omega
    ·simp only [AL]; exact ⟨h5,r,h6,h7⟩
    ·omega
    ·omega
    ·omega
   ·show (loadCells ⟨b,q,none⟩ (k*z)).run P w'=_
    have hlen:(vs.take (k*z)).length=k*z:=by rw [List.length_take,hl]; exact Nat.min_eq_left (Nat.mul_le_mul_right _ hk)
    have hrun:=Fi (P:=P) (w:=w') (off:=q) (vs.take (k*z)) (by rw [hw']; exact (g.glob b c e fr c4).2) (fun j v hj=>by
     have hj':vs[j]? = some v:=by
      rw [List.getElem?_take] at hj
      split at hj
      ·exact hj
      ·cases hj
     have hlt:j<len*z:=by rw [←hl]; exact (List.getElem?_eq_some_iff.1 hj').1
     rw [←AM j hlt]; exact hj')
    rw [hlen] at hrun
    exact hrun
  | _=>exact hg.elim
 | _=>exact hg.elim
theorem Rk {ct:Call} {ty t1 e:TypeId} {d:TypeDesc} {x y:Operand} {x' y':Opd} {s eb:Nat} {z:List V} (ho:o.op = .call ct) (hb:ct.callee = .builtin .append) (hts:ct.argTypes.toList=[ty,t1]) (hargs:ct.args.toList=[x,y])
  (hx:AX N x=some x') (hy:AX N y=some y') (ht:P.underlying ty=some (.slice e)) (hu:P.underlying t1=some d) (hd:∀ k,d ≠ .int k) (hs:Bv P e=some s) (hbe:Ew P e=some eb) (hz:Da P e=some z)
  (hsz:s=z.length) (h0:0<s) (hb0:0<eb):Cy P ρ B N o (LF s eb x' y' cf t h n) t h n:=by
 intro κ hg
 have e1:LF s eb x' y' cf t h n κ=N5 s (ev y' t) h fun m c=>DX s eb (ev x' t) m c h n κ:=by simp only [LF,AR]
 rw [e1] at hg
 obtain ⟨m,c,e2,hcl,hsrc⟩:=Md (P:=P) (ρ:=ρ) (B:=B) (n:=n) hg
 rw [e2] at hg
 obtain ⟨zv,it,hi,hzv,hr⟩:=CT (ρ:=ρ) hz
 have hits:it.size=s:=by unfold Bv at hs; rw [hi] at hs; simpa using hs
 have hitb:it.bytes=eb:=by unfold Ew at hbe; rw [hi] at hbe; simpa using hbe
 subst hits hitb
 have hzs:zv.cells.size=it.size:=by have:=Be (hr (fun _=>none)).1; simp at this; rw [this,hsz]
 obtain ⟨v,h1,n1,e3,H⟩:=Ik (P:=P) (ρ:=ρ) (B:=B) (ats:=#[ty,t1]) (e:=e) hzs h0 hb0 hg
 have hargs':ct.args = #[x,y]:=by rw [←hargs]
 have hts':ct.argTypes = #[ty,t1]:=by rw [←hts]
 refine ⟨v,h1,n1,e1.trans (e2.trans e3),.value fun φ a w hT g=>?_⟩
 obtain ⟨vs,q1,q2,q3,q4,q5⟩:=hsrc φ w _ g (An hy hT)
 obtain ⟨φ',X,w',r1,r2,r3,r4⟩:=H φ w (a.eval x) (a.eval y) o.type g (An hx hT) ⟨vs,q1,hcl,q2,q3,Nc ht hi hzv hb0 hu hd q4 fun w' hw'=>by
  have:=q5 m w' (Nat.le_refl _) hw'
  rwa [List.take_of_length_le (by omega)] at this⟩
 exact ⟨φ',X,w',DD ho hb fun cs=>by simp [builtin,hargs',hts',r1],r2,r3,r4⟩
theorem OG {ct:Call} {ty t1 e:TypeId} {ku:IntKind} {x y:Operand} {x' y':Opd} {s eb:Nat} {z:List V} (ho:o.op = .call ct) (hb:ct.callee = .builtin .append) (hts:ct.argTypes.toList=[ty,t1]) (hargs:ct.args.toList=[x,y])
  (hx:AX N x=some x') (hy:AX N y=some y') (ht:P.underlying ty=some (.slice e)) (hu:P.underlying t1=some (.int ku)) (hs:Bv P e=some s) (hbe:Ew P e=some eb) (hz:Da P e=some z)
  (hsz:s=z.length) (h0:0<s) (hb0:0<eb):Cy P ρ B N o (IK s eb (KU z) z x' y' cf t h n) t h n:=by
 intro κ hg
 have e1:IK s eb (KU z) z x' y' cf t h n κ=Ip (ev y' t) fun m=>br (Nat.ble (Nat.mul eb m) 281474976710656) (EL (KU z) z m fun c=>DX s eb (ev x' t) m c h n κ) (.fail ""):=by simp only [IK,AR]
 rw [e1] at hg
 obtain ⟨k,m,hyv,hm,e2⟩:=D9 hg
 rw [e2] at hg
 obtain ⟨h3,e3⟩:=Ap hg
 have h3:eb*m≤281474976710656:=Ar.1 h3
 rw [e3] at hg
 obtain ⟨c,e4,hcl,hca⟩:=GN (KU z) z m (fun c=>DX s eb (ev x' t) m c h n κ) MP
 rw [e4] at hg
 obtain ⟨zv,it,hi,hzv,hr⟩:=CT (ρ:=ρ) hz
 have hits:it.size=s:=by unfold Bv at hs; rw [hi] at hs; simpa using hs
 have hitb:it.bytes=eb:=by unfold Ew at hbe; rw [hi] at hbe; simpa using hbe
 subst hits hitb
 have hzs:zv.cells.size=it.size:=by have:=Be (hr (fun _=>none)).1; simp at this; rw [this,hsz]
 obtain ⟨v,h1,n1,e5,H⟩:=Ik (P:=P) (ρ:=ρ) (B:=B) (ats:=#[ty,t1]) (e:=e) hzs h0 hb0 hg
 have hargs':ct.args = #[x,y]:=by rw [←hargs]
 have hts':ct.argTypes = #[ty,t1]:=by rw [←hts]
 refine ⟨v,h1,n1,e1.trans (e2.trans (e3.trans (e4.trans e5))),.value fun φ a w hT g=>?_⟩
 have g2:=An hy hT
 rw [hyv] at g2
 have gy:=EI hm g2
 have hcells:∀ (i:Nat) (v:V),i<m*z.length->z[i % z.length]? = some v->∃ x,(Builtin.zeroCells zv.cells m).toList[i]? = some x∧AL ρ φ v x∧x.oneCell'=true:=fun i v hi hv=>by
  obtain ⟨x,hx,hrx⟩:=DB (hr φ).1 (hr φ).2 (k:=m*zv.cells.size) (by rw [hzs,hsz]; exact hi) hv
  refine ⟨x,?_,hrx⟩
  rw [Array.getElem?_toList]
  exact hx
 obtain ⟨φ',X,w',r1,r2,r3,r4⟩:=H φ w (a.eval x) (.int k m) o.type g (An hx hT) ⟨(Builtin.zeroCells zv.cells m).toList,by simp [size_zeroCells,hzs],by rw [hcl,hsz],fun u hu=>by
   obtain ⟨i,hi',rfl⟩:=List.getElem_of_mem hu
   have hlt:i<m*z.length:=by simpa [size_zeroCells,hzs,hsz] using hi'
   have hzp:i % z.length<z.length:=Nat.mod_lt _ (by omega)
   obtain ⟨x,hx,_,hox⟩:=hcells i _ hlt (List.getElem?_eq_getElem hzp)
   rw [List.getElem?_eq_getElem hi'] at hx
   cases hx; exact hox,fun i v hv=>by
   have hlt:=Cs.lt_of_at hv
   rw [hcl] at hlt
   rw [hca i hlt] at hv
   exact hcells i v hlt hv,Nr ht hi hzv hb0 h0 hu (by rw [Nat.mul_comm]; exact h3)⟩
 exact ⟨φ',X,w',DD ho hb fun cs=>by simp [builtin,hargs',hts',gy,r1],r2,r3,r4⟩
end
end Go.Ev

namespace Go.Ev
set_option linter.unusedVariables false
section
variable {P:Program} {ρ:Env} {B N:Nat} {o:Oper} {cf:CF} {t:Regs} {h:Heap} {n:K4}
theorem QT {ct:Call} {ty e:TypeId} {ts:List TypeId} {x y:Operand} {x' y':Opd} {s:Nat} (ho:o.op = .call ct) (hb:ct.callee = .builtin .copy) (hts:ct.argTypes.toList=ty::ts) (hargs:ct.args.toList=[x,y])
  (hx:AX N x=some x') (hy:AX N y=some y') (ht:P.underlying ty=some (.slice e)) (hs:Bv P e=some s):Cy P ρ B N o (Lg s x' y' cf t h n) t h n:=by
 intro κ hg
 have e1:Lg s x' y' cf t h n κ=N5 s (ev y' t) h fun m y=>CU (ev x' t) (κ (.int .i64 0) h n) (fun p off len cap ex esz'=>br (Nat.beq esz' s) (br (Nat.beq (@Bool.rec (fun _=>Nat) len m (Nat.ble m len)) 0) (κ (.int .i64 0) h n) (BW y 0 (Nat.mul (@Bool.rec (fun _=>Nat) len m (Nat.ble m len)) s) fun y=>E9 h p off y fun h=>G7 (@Bool.rec (fun _=>Nat) len m (Nat.ble m len)) fun v=>κ v h n)) (.fail "")):=by
  simp only [Lg,AR,Ai]
 rw [e1] at hg
 obtain ⟨m,c,e2,hcl,hsrc⟩:=Md (P:=P) (ρ:=ρ) (B:=B) (n:=n) hg
 rw [e2] at hg
 have hargs':ct.args = #[x,y]:=by rw [←hargs]
 have hts':ct.argTypes[0]? = some ty:=by rw [←Array.getElem?_toList,hts]; rfl
 rcases CD hg with ⟨hv,e3⟩ | ⟨p,off,len,cap,ex,esz,hv,e3⟩
 ·refine ⟨_,h,n,e1.trans (e2.trans e3),.value fun φ a w hT g=>?_⟩
  obtain ⟨vs,q1,q2,q3,q4,q5⟩:=hsrc φ w _ g (An hy hT)
  have g1:=An hx hT
  rw [hv] at g1
  have gx:=BS g1
  have h0:=q5 0 w (Nat.zero_le _) rfl
  refine ⟨φ,goInt 0,w,DD ho hb fun cs=>?_,Fr.refl h φ n w,g,DA (by decide) φ⟩
  simp [builtin,Builtin.copy_,hts',hargs',gx,C8,run_underlying ht,q4,Bf hs]
  simp at h0
  simp [h0]
 ·rw [e3] at hg
  obtain ⟨h4,e4⟩:=Ap hg
  have h4:=Nat.eq_of_beq_eq_true h4
  subst h4
  rw [e4] at hg
  have hk:(@Bool.rec (fun _=>Nat) len m (Nat.ble m len))=Nat.min m len:=by
   cases hb:Nat.ble m len with
   | true=>have:=Ar.1 hb; show m=Nat.min m len; exact (Nat.min_eq_left this).symm
   | false =>
    have:¬ m≤len:=fun h=>by rw [Ar.2 h] at hb; cases hb
    show len=Nat.min m len; exact (Nat.min_eq_right (by omega)).symm
  have e5:=hk
  generalize (@Bool.rec (fun _=>Nat) len m (Nat.ble m len))=k at hg e1 e2 e3 e4 hk
  have hkm:k≤m:=by rw [hk]; exact Nat.min_le_left _ _
  have hkl:k≤len:=by rw [hk]; exact Nat.min_le_right _ _
  rcases NL hg with ⟨h6,e6⟩ | ⟨h6,e6⟩
  ·have h6:=Nat.eq_of_beq_eq_true h6
   subst h6
   refine ⟨_,h,n,e1.trans (e2.trans (e3.trans (e4.trans e6))),.value fun φ a w hT g=>?_⟩
   obtain ⟨vs,q1,q2,q3,q4,q5⟩:=hsrc φ w _ g (An hy hT)
   have g1:=An hx hT
   rw [hv] at g1
   obtain ⟨b,s,tot,q,cap',hφ,gx,c1,c2,c3,c4⟩:=CG g1
   have h0:=q5 0 w (Nat.zero_le _) rfl
   simp at h0
   refine ⟨φ,goInt 0,w,DD ho hb fun cs=>?_,Fr.refl h φ n w,g,DA (by decide) φ⟩
   have hst:(storeCells (⟨b,q,none⟩:Addr) []).run P w = .ok () w:=rfl
   simp [builtin,Builtin.copy_,hts',hargs',gx,run_underlying ht,q4,Bf hs,←hk,h0,hst]
  ·rw [e6] at hg
   obtain ⟨hle,z,hzl,hza,e7⟩:=Cu hg
   rw [e7] at hg
   obtain ⟨cs,prev,zz,hp,hz,e8⟩:=EV hg
   rw [e8] at hg
   obtain ⟨h9,e9⟩:=FD hg
   have hzl:z.len=k*esz:=hzl
   have hk0:0<k:=Nat.pos_of_ne_zero fun h=>by subst h; simp at h6
   refine ⟨_,_,n,e1.trans (e2.trans (e3.trans (e4.trans (e6.trans (e7.trans (e8.trans e9)))))),.value fun φ a w hT g=>?_⟩
   obtain ⟨vs,q1,q2,q3,q4,q5⟩:=hsrc φ w _ g (An hy hT)
   have g1:=An hx hT
   rw [hv] at g1
   obtain ⟨b,s,tot,q,cap',hφ,gx,c1,c2,c3,c4⟩:=CG g1
   obtain ⟨c5,c6⟩:=c4 (by omega)
   have hfc:=q5 k w hkm rfl
   have hvl:(vs.take (k*esz)).length=z.len:=by rw [List.length_take,q1,hzl]; exact Nat.min_eq_left (Nat.mul_le_mul_right _ hkm)
   obtain ⟨w',r1,r2,r3⟩:=EY (P:=P) g hp hφ hz (vs:=vs.take (k*esz)) hvl (fun i v hi=>by
    have hlt:=Cs.lt_of_at hi
    rw [hza i (by have:=hlt; rw [hzl] at this; exact this),Nat.zero_add] at hi
    obtain ⟨X,hX,hr,_⟩:=q3 i v hi
    exact ⟨X,by rw [List.getElem?_take,if_pos (by rw [←hzl]; exact hlt)]; exact hX,hr⟩) (fun v hv=>q2 v (List.mem_of_mem_take hv))
   refine ⟨φ,goInt k,w',DD ho hb fun cs=>?_,r3,r2,DA h9 φ⟩
   rw [←c5] at r1
   simp [builtin,Builtin.copy_,hts',hargs',gx,run_underlying ht,q4,Bf hs,←hk,hfc,r1]
theorem Rb {ct:Call} {ty e:TypeId} {ts:List TypeId} {x:Operand} {xs:List Operand} {x':Opd} {s:Nat} {z:List V} (ho:o.op = .call ct) (hb:ct.callee = .builtin .clear) (hts:ct.argTypes.toList=ty::ts) (hargs:ct.args.toList=x::xs)
  (hx:AX N x=some x') (ht:P.underlying ty=some (.slice e)) (hs:Bv P e=some s) (hz:Da P e=some z) (hsz:s=z.length) (h0:0<s):Cy P ρ B N o (LV (KU z) z x' cf t h n) t h n:=by
 intro κ hg
 have e1:LV (KU z) z x' cf t h n κ=CU (ev x' t) (κ (.tup []) h n) (fun p off len cap ex esz=>br (Nat.beq z.length esz) (br (Nat.beq len 0) (κ (.tup []) h n) (EL (KU z) z len fun y=>E9 h p off y fun h=>κ (.tup []) h n)) (.fail "")):=by simp only [LV,AR,Dd]
 rw [e1] at hg
 have hargs':ct.args[0]? = some x:=by rw [←Array.getElem?_toList,hargs]; rfl
 have hts':ct.argTypes[0]? = some ty:=by rw [←Array.getElem?_toList,hts]; rfl
 have rt:∀ φ:B9,AL ρ φ (.tup []) (.tuple #[]):=fun φ=>by simp only [AL]; exact ⟨#[],rfl,AT.2 rfl⟩
 rcases CD hg with ⟨hv,e2⟩ | ⟨p,off,len,cap,ex,esz,hv,e2⟩
 ·refine ⟨_,h,n,e1.trans e2,.value fun φ a w hT g=>?_⟩
  have g1:=An hx hT
  rw [hv] at g1
  have gx:=BS g1
  refine ⟨φ,.tuple #[],w,DD ho hb fun cs=>?_,Fr.refl h φ n w,g,rt φ⟩
  simp [builtin,Builtin.clear_,hts',hargs',gx,C8,run_underlying ht]
 ·rw [e2] at hg
  obtain ⟨h3,e3⟩:=Ap hg
  have h3:=Nat.eq_of_beq_eq_true h3
  rw [e3] at hg
  rcases NL hg with ⟨h4,e4⟩ | ⟨h4,e4⟩
  ·have h4:=Nat.eq_of_beq_eq_true h4
   subst h4
   refine ⟨_,h,n,e1.trans (e2.trans (e3.trans e4)),.value fun φ a w hT g=>?_⟩
   have g1:=An hx hT
   rw [hv] at g1
   obtain ⟨b,s',tot,q,cap',hφ,gx,c1,c2,c3,c4⟩:=CG g1
   refine ⟨φ,.tuple #[],w,DD ho hb fun cs=>?_,Fr.refl h φ n w,g,rt φ⟩
   simp [builtin,Builtin.clear_,hts',hargs',gx,run_underlying ht]
  ·rw [e4] at hg
   obtain ⟨y,e5,hyl,hya⟩:=GN (KU z) z len (fun y=>E9 h p off y fun h=>κ (.tup []) h n) MP
   rw [e5] at hg
   obtain ⟨cs,prev,zz,hp,hzz,e6⟩:=EV hg
   refine ⟨_,_,n,e1.trans (e2.trans (e3.trans (e4.trans (e5.trans e6)))),.value fun φ a w hT g=>?_⟩
   have g1:=An hx hT
   rw [hv] at g1
   obtain ⟨b,s',tot,q,cap',hφ,gx,c1,c2,c3,c4⟩:=CG g1
   have hl0:0<len:=Nat.pos_of_ne_zero fun h=>by subst h; simp at h4
   obtain ⟨c5,c6⟩:=c4 (by omega)
   obtain ⟨zv,it,hi,hzv,hr⟩:=CT (ρ:=ρ) hz
   have hzs:zv.cells.size=z.length:=by have:=Be (hr φ).1; simpa using this
   have hzr:∀ w,(zeroValue e).run P w = .ok zv w:=D7 (by rw [hi]; exact hzv)
   have hat:∀ i,i<len*z.length->∃ v,z[i % z.length]? = some v:=fun i hi=>by
    have hzp:i % z.length<z.length:=Nat.mod_lt _ (by omega)
    exact ⟨_,List.getElem?_eq_getElem hzp⟩
   obtain ⟨w',r1,r2,r3⟩:=EY (P:=P) g hp hφ hzz (vs:=(Builtin.zeroCells zv.cells len).toList) (by simp [size_zeroCells,hzs,hyl]) (fun i v hi=>by
    have hlt:=Cs.lt_of_at hi
    rw [hyl] at hlt
    rw [hya i hlt] at hi
    obtain ⟨X,hX,hrX,_⟩:=DB (hr φ).1 (hr φ).2 (k:=len*zv.cells.size) (by rw [hzs]; exact hlt) hi
    exact ⟨X,by rw [Array.getElem?_toList]; exact hX,hrX⟩) (fun u hu=>by
    obtain ⟨i,hi',rfl⟩:=List.getElem_of_mem hu
    have hlt:i<len*z.length:=by simpa [size_zeroCells,hzs] using hi'
    obtain ⟨v,hv⟩:=hat i hlt
    obtain ⟨X,hX,_,hoX⟩:=DB (hr φ).1 (hr φ).2 (k:=len*zv.cells.size) (by rw [hzs]; exact hlt) hv
    have hX:(Builtin.zeroCells zv.cells len)[i]? = some X:=hX
    rw [←Array.getElem?_toList,List.getElem?_eq_getElem hi'] at hX
    cases hX; exact hoX)
   rw [←c5] at r1
   refine ⟨φ,.tuple #[],w',DD ho hb fun cs=>?_,r3,r2,rt φ⟩
   obtain ⟨m,rfl⟩:∃ m,len=m+1:=⟨len - 1,by omega⟩
   simp [builtin,Builtin.clear_,hts',hargs',gx,run_underlying ht,hzr,r1]
def Jh (P:Program) (f:FuncId) (args:Array Value) (w:World) (R:Value->World->Prop):Prop :=
 ∀ (o:Oper) (a:Act) (K:Act->World->Prop) (Q:Exit->Act->World->Prop),(∀ x w',R x w'->K (a.put o.dst x) w')->o.upon P a K Q ((callFunc f args).run P w)
def DR (P:Program) (ρ:Env) (B:Nat) (cf:CF):Prop :=
 ∀ f args h n v h1 n1,cf f args h n = .rv v h1 n1->∀ φ w (xs:Array Value),Gam ρ B h n φ w->Bs ρ φ args xs.toList →
  Jh P f xs w fun x w'=>∃ φ',Fr h h1 φ φ' n n1 w w'∧Gam ρ B h1 n1 φ' w'∧AL ρ φ' v x
theorem Mt {κ:KV} {r:R} (hg:R.good (@R.rec (fun _=>R) (FF "") (fun v h n=>κ v h n) (fun w=>.fail w) (FF "") r)) :
  ∃ v h1 n1,r = .rv v h1 n1∧@R.rec (fun _=>R) (FF "") (fun v h n=>κ v h n) (fun w=>.fail w) (FF "") r=κ v h1 n1:=by
 cases r with
 | ok e t h n=>exact hg.elim
 | rv v h1 n1=>exact ⟨v,h1,n1,rfl,rfl⟩
 | fail w=>exact hg.elim
 | both a b=>exact hg.elim
theorem Pc {ct:Call} {f:FuncId} {args:List Opd} (hcf:DR P ρ B cf) (ho:o.op = .call ct) (hc:ct.callee = .value (.func f)) (ha:Bz N ct.args.toList=some args):Cy P ρ B N o (N7 f args cf t h n) t h n:=by
 intro κ hg
 have e1:N7 f args cf t h n κ=@R.rec (fun _=>R) (FF "") (fun v h n=>κ v h n) (fun w=>.fail w) (FF "") (cf f (args.map (ev · t)) h n):=by simp only [N7,F6]
 rw [e1] at hg
 obtain ⟨v,h1,n1,hr,e2⟩:=Mt hg
 refine ⟨v,h1,n1,e1.trans e2,fun φ a w hT g K Q hK=>?_⟩
 have:=hcf f _ h n v h1 n1 hr φ w (ct.args.map a.eval) g (by rw [Array.toList_map]; exact En ha hT) o a K Q (fun x w' ⟨φ',f1,g1,r1⟩=>hK φ' x w' f1 g1 r1)
 unfold Oper.wp
 have e3:(execOp a.eval o).run P w=(callFunc f (ct.args.map a.eval)).run P w:=by
  simp [execOp,ho,resolve,hc,Act.eval,Deferred.ofValue,invoke]
 rw [e3]; exact this
theorem Ok {ct:Call} {x:Operand} {x':Opd} {args:List Opd} (hcf:DR P ρ B cf) (ho:o.op = .call ct) (hc:ct.callee = .value x) (hx:AX N x=some x') (ha:Bz N ct.args.toList=some args):Cy P ρ B N o (Eh x' args cf t h n) t h n:=by
 intro κ hg
 have e1:Eh x' args cf t h n κ=P0 (ev x' t) fun f caps=>@R.rec (fun _=>R) (FF "") (fun v h n=>κ v h n) (fun w=>.fail w) (FF "") (cf f (args.map (ev · t)++caps) h n):=by
  simp only [Eh,AR,F6,Ei]
 rw [e1] at hg
 obtain ⟨f,caps,hxv,e2⟩:=Lz hg
 rw [e2] at hg
 obtain ⟨v,h1,n1,hr,e3⟩:=Mt hg
 refine ⟨v,h1,n1,e1.trans (e2.trans e3),fun φ a w hT g K Q hK=>?_⟩
 have g1:=An hx hT
 rw [hxv] at g1
 obtain ⟨cs,gx,hcs⟩:=Iw g1
 have:=hcf f _ h n v h1 n1 hr φ w (ct.args.map a.eval++cs) g (by rw [Array.toList_append,Array.toList_map]; exact F3 (En ha hT) hcs) o a K Q (fun x w' ⟨φ',f1,g1,r1⟩=>hK φ' x w' f1 g1 r1)
 unfold Oper.wp
 have e3:(execOp a.eval o).run P w=(callFunc f (ct.args.map a.eval++cs)).run P w:=by
  simp [execOp,ho,resolve,hc,gx,Deferred.ofValue,invoke]
 rw [e3]; exact this
theorem QO {why:String}:Cy P ρ B N o (Qt why cf t h n) t h n:=fun κ hg=>hg.elim
end
end Go.Ev

namespace Go.Ev
set_option linter.unusedVariables false
section
variable {P:Program} {ρ:Env} {B N:Nat} {o:Oper} {cf:CF} {t:Regs} {h:Heap} {n:K4}
theorem AA {α β:Type} {x:Option α} {f:α->β} {y:β} (h:x.map f=some y):∃ a,x=some a∧f a=y:=by
 cases x with
 | none=>cases h
 | some a=>exact ⟨a,rfl,by simpa using h⟩
theorem BL {α β:Type} {x:Option α} {f:α->Option β} {y:β} (h:x.bind f=some y):∃ a,x=some a∧f a=some y:=by
 cases x with
 | none=>cases h
 | some a=>exact ⟨a,rfl,h⟩
theorem Bp {α:Type} {c:Prop} [Decidable c] {x y:α} (h:(if c then some x else none)=some y):c∧x=y:=by
 split at h
 ·exact ⟨‹c›,by simpa using h⟩
 ·cases h
theorem Kn {e:TypeId} (h:Vt P e=true):P.underlying e=some (.int .u8):=by
 unfold Vt at h
 split at h
 ·assumption
 ·cases h
theorem L7 {ct:Call} {b:Builtin} {args:List Opd} {k:AK} (ho:o.op = .call ct) (hb:ct.callee = .builtin b) (ha:Bz N ct.args.toList=some args) (hk:EF P b ct.argTypes args=some k):Cy P ρ B N o (GX k cf t h n) t h n:=by
 have two:∀ {x y:Opd},args=[x,y]->∃ x0 y0,ct.args.toList=[x0,y0]∧AX N x0=some x∧AX N y0=some y:=fun {x y} e=>by
  subst e
  cases hl:ct.args.toList with
  | nil=>rw [hl] at ha; simp [Bz] at ha
  | cons x0 l =>
   rw [hl] at ha
   simp only [Bz] at ha
   split at ha
   ·rename_i x1 xs1 h1 h2
    cases ha
    cases l with
    | nil=>simp [Bz] at h2
    | cons y0 l =>
     simp only [Bz] at h2
     split at h2
     ·rename_i y1 ys1 h3 h4
      cases h2
      cases l with
      | nil=>exact ⟨x0,y0,rfl,h1,h3⟩
      | cons z l =>
       simp only [Bz] at h4
       split at h4 <;> cases h4
     ·cases h2
   ·cases ha
 have one:∀ {x:Opd} {l:List Opd},args=x::l->∃ x0 l0,ct.args.toList=x0::l0∧AX N x0=some x:=fun {x l} e=>by
  subst e
  cases hl:ct.args.toList with
  | nil=>rw [hl] at ha; simp [Bz] at ha
  | cons x0 l0 =>
   rw [hl] at ha
   simp only [Bz] at ha
   split at ha
   ·rename_i x1 xs1 h1 h2
    cases ha
    exact ⟨x0,l0,rfl,h1⟩
   ·cases ha
 unfold EF at hk
 split at hk
 ·-- len
  rename_i ty ts x l hts
  obtain ⟨x0,l0,hl,hx⟩:=one rfl
  split at hk
  ·cases hk; exact (Lh (cf:=cf) ho hb hts hl hx (by assumption)).sound
  ·cases hk; exact (Mn (cf:=cf) ho hb hts hl hx (by assumption)).sound
  ·cases hk; exact (Lv (cf:=cf) ho hb hts hl hx (by assumption)).sound
  ·cases hk
 ·obtain ⟨x0,y0,hl,hx,hy⟩:=two rfl
  cases hk; exact (M5 (cf:=cf) ho hb hl hx hy).sound
 ·obtain ⟨x0,y0,hl,hx,hy⟩:=two rfl
  cases hk; exact (Mp (cf:=cf) ho hb hl hx hy).sound
 ·obtain ⟨x0,y0,z0,hl,hx,hy,hz⟩:=Gi ha
  cases hk; exact (JW (cf:=cf) ho hb hl hx hy hz).sound
 ·rename_i ty u x y hts
  obtain ⟨x0,y0,hl,hx,hy⟩:=two rfl
  split at hk
  ·rename_i e ku ht hu
   split at hk
   ·rename_i s b z h1 h2 h3
    obtain ⟨hc,rfl⟩:=Bp hk
    simp only [Bool.and_eq_true,beq_iff_eq,decide_eq_true_eq] at hc
    exact OG (cf:=cf) ho hb hts hl hx hy ht hu h1 h2 h3 hc.1.1 hc.1.2 hc.2
   ·cases hk
  ·rename_i e d hd ht hu
   split at hk
   ·rename_i s b z h1 h2 h3
    obtain ⟨hc,rfl⟩:=Bp hk
    simp only [Bool.and_eq_true,beq_iff_eq,decide_eq_true_eq] at hc
    exact Rk (cf:=cf) ho hb hts hl hx hy ht hu (fun k e2=>hd k e2) h1 h2 h3 hc.1.1 hc.1.2 hc.2
   ·cases hk
  ·cases hk
 ·rename_i ty ts x y hts
  obtain ⟨x0,y0,hl,hx,hy⟩:=two rfl
  split at hk
  ·rename_i e ht
   split at hk
   ·rename_i s h1
    obtain ⟨hc,rfl⟩:=Bp hk
    exact QT (cf:=cf) ho hb hts hl hx hy ht h1
   ·cases hk
  ·cases hk
 ·rename_i ty ts m k' hts
  obtain ⟨x0,y0,hl,hx,hy⟩:=two rfl
  split at hk
  ·rename_i kt e ht
   obtain ⟨pl,hp,rfl⟩:=AA hk
   exact Rf (cf:=cf) ho hb hts hl hx hy ht hp
  ·cases hk
 ·rename_i ty ts x l hts
  obtain ⟨x0,l0,hl,hx⟩:=one rfl
  split at hk
  ·cases hk; exact (MA (cf:=cf) ho hb hts hl hx (by assumption)).sound
  ·cases hk
 ·rename_i ty ts x l hts
  obtain ⟨x0,l0,hl,hx⟩:=one rfl
  split at hk
  ·rename_i e ht
   split at hk
   ·rename_i s z h1 h2
    obtain ⟨hc,rfl⟩:=Bp hk
    simp only [Bool.and_eq_true,beq_iff_eq,decide_eq_true_eq] at hc
    exact Rb (cf:=cf) ho hb hts hl hx ht h1 h2 hc.1 hc.2
   ·cases hk
  ·cases hk
 ·cases hk
theorem JE (hρ:Bo ρ) (hcf:DR P ρ B cf) {k:AK} (hk:F0 P N o=some k):Cy P ρ B N o (GX k cf t h n) t h n:=by
 unfold F0 at hk
 split at hk
 ·rename_i x ho
  obtain ⟨x',hx,rfl⟩:=AA hk
  exact (HF (cf:=cf) (.inl ho) hx).sound
 ·rename_i x ho
  obtain ⟨x',hx,rfl⟩:=AA hk
  exact (HF (cf:=cf) (.inr ho) hx).sound
 ·rename_i c a b ho
  split at hk
  ·cases hk; exact (Kk (cf:=cf) ho (by assumption) (by assumption) (by assumption)).sound
  ·cases hk
 ·rename_i e ho
  obtain ⟨z,hz,rfl⟩:=AA hk
  exact R9 (cf:=cf) ho hz
 ·rename_i e x ho
  obtain ⟨x',hx,rfl⟩:=AA hk
  exact QK (cf:=cf) hρ ho hx
 ·rename_i ty parts ho
  split at hk
  ·rename_i fs z hu hz
   obtain ⟨places,hpl,hk⟩:=BL hk
   obtain ⟨ps,hps,rfl⟩:=AA hk
   exact (EX (cf:=cf) hρ ho hz hps fun it zv hi hzv l=>by unfold Program.built; simp only [hi,hu,hzv,hpl]).sound
  ·rename_i m e z hu hz
   obtain ⟨s,hs,hk⟩:=BL hk
   obtain ⟨ps,hps,rfl⟩:=AA hk
   refine (EX (cf:=cf) hρ ho hz hps fun it zv hi hzv l=>?_).sound
   unfold Program.built
   unfold Bv at hs
   cases hie:P.info? e with
   | none=>rw [hie] at hs; cases hs
   | some ie=>rw [hie] at hs; cases hs; simp only [hi,hu,hzv,hie]
  ·cases hk
 ·rename_i ty len parts ho
  split at hk
  ·rename_i e hu
   split at hk
   ·rename_i s z hs hz
    split at hk
    ·rename_i hc
     obtain ⟨ps,hps,rfl⟩:=AA hk
     simp only [Bool.and_eq_true,beq_iff_eq,decide_eq_true_eq] at hc
     exact MG (cf:=cf) hρ ho hu hs hz hc.1.1 hc.1.2 hc.2 hps
    ·cases hk
   ·cases hk
  ·cases hk
 ·rename_i ty a ho
  split at hk
  ·cases hk; exact (LK (cf:=cf) ho (by assumption) (by assumption) (by assumption)).sound
  ·cases hk; exact (Oc (cf:=cf) ho (by assumption) (by assumption)).sound
  ·cases hk
 ·rename_i ty a x ho
  split at hk
  ·cases hk; exact SZ (cf:=cf) hρ ho (by assumption) (by assumption) (by assumption)
  ·cases hk
 ·rename_i x ho
  obtain ⟨x',hx,rfl⟩:=AA hk
  exact (J7 (cf:=cf) ho hx).sound
 ·rename_i op ty x y yt ho
  split at hk
  ·rename_i a b ha hb
   split at hk
   ·cases hk; exact (CA (cf:=cf) ho ha hb).sound
   ·cases hk; exact (CA (cf:=cf) ho ha hb).sound
   ·cases hk; exact (CA (cf:=cf) ho ha hb).sound
   ·cases hk; exact (CA (cf:=cf) ho ha hb).sound
   ·split at hk
    ·cases hk
    ·rename_i hgd
     obtain ⟨pl,hp,rfl⟩:=AA hk
     exact (Ia (cf:=cf) (neg:=false) ho ha hb hp (by simpa using hgd)).sound
   ·split at hk
    ·cases hk
    ·rename_i hgd
     obtain ⟨pl,hp,rfl⟩:=AA hk
     exact (Ia (cf:=cf) (neg:=true) ho ha hb hp (by simpa using hgd)).sound
   ·cases hk; exact (CA (cf:=cf) ho ha hb).sound
  ·cases hk
 ·rename_i op ty x ho
  split at hk
  ·cases hk; exact (Mm (cf:=cf) ho (by assumption)).sound
  ·cases hk; exact (Lt (cf:=cf) ho (by assumption)).sound
  ·cases hk; exact (M3 (cf:=cf) ho (by assumption)).sound
  ·cases hk
 ·rename_i src dst x ho
  split at hk
  ·cases hk; exact (Mv (cf:=cf) ho (by assumption) (by assumption) (by assumption)).sound
  ·cases hk; exact (LN (cf:=cf) ho (by assumption) (by assumption) (by assumption)).sound
  ·rename_i e x' hs hd hx
   obtain ⟨hc,rfl⟩:=Bp hk
   exact Rz (cf:=cf) ho hx hs hd (Kn hc)
  ·rename_i e x' hs hd hx
   obtain ⟨hc,rfl⟩:=Bp hk
   exact (M6 (cf:=cf) ho hx hs hd (Kn hc)).sound
  ·rename_i e' e x' hs hd hx
   obtain ⟨hc,rfl⟩:=Bp hk
   simp only [Bool.and_eq_true] at hc
   exact R3 (cf:=cf) ho hx hs hd hc.1 (Kn hc.2)
  ·cases hk
 ·rename_i fn first caps ho
  split at hk
  ·rename_i f l hf hl
   cases hk
   have:first = #[]:=by cases first; simp_all
   subst this
   exact (Ke (cf:=cf) ho hl).sound
  ·cases hk
 ·cases hk; exact Nt (cf:=cf) (by assumption)
 ·rename_i ty l c ho
  split at hk
  ·rename_i e l' c' hu hl hc
   split at hk
   ·rename_i s b z h1 h2 h3
    obtain ⟨hcc,rfl⟩:=Bp hk
    simp only [Bool.and_eq_true,beq_iff_eq,decide_eq_true_eq] at hcc
    exact Pf (cf:=cf) ho hl hc hu h1 h2 h3 hcc.1.1 hcc.1.2 hcc.2
   ·cases hk
  ·cases hk
 ·rename_i ty x lo hi ho
  split at hk
  ·cases hk; exact (Ls (cf:=cf) ho (by assumption) (by assumption) (by assumption) (by assumption)).sound
  ·obtain ⟨s,hs,rfl⟩:=AA hk
   exact (Lk (cf:=cf) ho (by assumption) (by assumption) (by assumption) (by assumption) hs).sound
  ·obtain ⟨s,hs,rfl⟩:=AA hk
   exact (Li (cf:=cf) ho (by assumption) (by assumption) (by assumption) (by assumption) hs).sound
  ·cases hk
 ·rename_i s x f ho
  split at hk
  ·rename_i fs x' hs hx
   obtain ⟨fd,hf,hk⟩:=BL hk
   split at hk
   ·rename_i sz hsz
    cases hk; exact (LE (cf:=cf) ho hx hs hf hsz).sound
   ·cases hk
  ·cases hk
 ·rename_i s x f ho
  split at hk
  ·rename_i fs x' hs hx
   obtain ⟨fd,hf,hk⟩:=BL hk
   split at hk
   ·cases hk; exact (Ms (cf:=cf) ho hx hs hf (by assumption) (by assumption)).sound
   ·cases hk
  ·cases hk
 ·rename_i ty x i ho
  split at hk
  ·obtain ⟨s,hs,rfl⟩:=AA hk
   exact (Mq (cf:=cf) ho (by assumption) (by assumption) (by assumption) hs).sound
  ·obtain ⟨s,hs,rfl⟩:=AA hk
   exact (Lf (cf:=cf) ho (by assumption) (by assumption) (by assumption) hs).sound
  ·cases hk
 ·rename_i ty x i ho
  split at hk
  ·cases hk; exact (Lq (cf:=cf) ho (by assumption) (by assumption) (by assumption)).sound
  ·split at hk
   ·cases hk; exact (LT (cf:=cf) ho (by assumption) (by assumption) (by assumption) (by assumption) (by assumption)).sound
   ·cases hk
  ·cases hk
 ·rename_i ty m k' ok ho
  split at hk
  ·rename_i kt e m' k'' ht hm hk'
   split at hk
   ·rename_i pl z hp hz
    obtain ⟨zz,hzz,rfl⟩:=AA hk
    exact (Oz (cf:=cf) ho hm hk' ht hp hz hzz).sound
   ·cases hk
  ·cases hk
 ·rename_i ty m k' v ho
  split at hk
  ·rename_i kt e m' k'' v' ht hm hk' hv
   obtain ⟨pl,hp,rfl⟩:=AA hk
   exact Ol (cf:=cf) (.inl ho) hm hk' hv ht hp
  ·cases hk
 ·rename_i ty m k' v ho
  split at hk
  ·rename_i kt e m' k'' v' ht hm hk' hv
   obtain ⟨pl,hp,rfl⟩:=AA hk
   exact Ol (cf:=cf) (.inr ho) hm hk' hv ht hp
  ·cases hk
 ·rename_i x i ho
  obtain ⟨x',hx,rfl⟩:=AA hk
  exact (Mx (cf:=cf) ho hx).sound
 ·rename_i c ho
  split at hk
  ·exact L7 ho (by assumption) (by assumption) hk
  ·cases hk; exact Pc (cf:=cf) hcf ho (by assumption) (by assumption)
  ·obtain ⟨x',hx,rfl⟩:=AA hk
   exact Ok (cf:=cf) hcf ho (by assumption) hx (by assumption)
  ·cases hk
 ·cases hk
end
end Go.Ev

namespace Go.Ev
set_option linter.unusedVariables false
section
variable {P:Program} {ρ:Env} {B N:Nat} {cf:CF}
theorem TR.put {φ:B9} {t:Regs} {a:Act} (hT:TR ρ N φ t a) {d:Nat} {p:K2} (hd:d<N) (hp:K2.ofN d=some p) {v:V} {x:Value} (hr:AL ρ φ v x):TR ρ N φ (DE p t v) (a.put (some d) x) where
 size:=by show (a.tmps.setIfInBounds d x).size=N; simp [hT.size]
 defers:=hT.defers
 at_:=fun s q hs hq=>by
  show AL ρ φ (Bg q (DE p t v)) ((a.tmps.setIfInBounds d x).getD s undef)
  by_cases e:d=s
  ·subst e
   rw [hp] at hq; cases hq
   rw [Bd]
   have:(a.tmps.setIfInBounds d x).getD d undef=x:=by
    rw [Array.getD_eq_getD_getElem?,Array.getElem?_setIfInBounds]; simp [hT.size,hd]
   rw [this]; exact hr
  ·have hne:p≠q:=fun h=>e (K2.ofN_inj hp (h ▸ hq))
   rw [Bt _ _ hne]
   have:(a.tmps.setIfInBounds d x).getD s undef=a.tmps.getD s undef:=by
    rw [Array.getD_eq_getD_getElem?,Array.getElem?_setIfInBounds,if_neg e,←Array.getD_eq_getD_getElem?]
   rw [this]; exact hT.at_ s q hs hq
theorem DQ {φ:B9}:AL ρ φ Cg undef:=by simp only [Cg,AL,undef]; exact ⟨#[],rfl,by simp only [Bs]⟩
def Qv (N:Nat) (dst:Option Nat) (d:Option K2):Prop:=match dst,d with
 | none,none=>True
 | some s,some p=>s<N∧K2.ofN s=some p
 | _,_=>False
def Db (d:Option K2) (t:Regs) (v:V):Regs:=match d with | none=>t | some p=>DE p t v
theorem TR.puts {φ:B9} {t:Regs} {a:Act} (hT:TR ρ N φ t a) {dst:Option Nat} {d:Option K2} (hd:Qv N dst d) {v:V} {x:Value} (hr:AL ρ φ v x):TR ρ N φ (Db d t v) (a.put dst x):=by
 cases dst with
 | none=>cases d with
  | none=>exact hT
  | some p=>exact hd.elim
 | some s=>cases d with
  | none=>exact hd.elim
  | some p=>exact hT.put hd.1 hd.2 hr
theorem Dj {s:Nat} {p:K2} (h:G4 N s=some p):s<N∧K2.ofN s=some p:=by
 unfold G4 at h
 split at h
 ·exact ⟨‹_›,h⟩
 ·cases h
def Pl:Value->Option Bool
 | .bool b=>some b
 | _=>none
theorem O1 {x:Value} (h:∀ b,x ≠ .bool b):Pl x=none:=by
 cases x <;> first | rfl | exact absurd rfl (h _)
theorem Gj {g:Option (K2×Bool)} {t:Regs} {yes no:R} (hg:(CI g t yes no).good) {ops:Array Oper} {o:Oper}
  (hc:(match o.guard with | none=>some none | some (j,w)=>((ops[j]?).bind (·.dst)).bind fun d=>(G4 N d).map fun s=>some (s,w):Option (Option (K2×Bool)))=some g) :
  (CI g t yes no=yes ∧ ∀ φ a,TR ρ N φ t a->Region.wanted o (yielded ops a.tmps)=true)∨(CI g t yes no=no ∧ ∀ φ a,TR ρ N φ t a->Region.wanted o (yielded ops a.tmps)=false):=by
 cases hgd:o.guard with
 | none =>
  rw [hgd] at hc
  simp only [Option.some.injEq] at hc; subst hc
  exact .inl ⟨rfl,fun φ a _=>by simp [Region.wanted,hgd]⟩
 | some jw =>
  obtain ⟨j,want⟩:=jw
  rw [hgd] at hc
  obtain ⟨d,hd,hc⟩:=BL hc
  obtain ⟨p,hp,rfl⟩:=AA hc
  obtain ⟨hdN,hpN⟩:=Dj hp
  have e1:CI (some (p,want)) t yes no=@V.rec (fun _=>R) (fun _=>Unit) (fun _ _=>no) (fun b=>br (Bool.rec (Bool.rec true false b) b want) yes no) (fun _ _=>no) (fun _ _ _ _ _ _=>no) (fun _ _=>no) (fun _ _=>no) (fun _=>no) (fun _=>no) (fun _ _ _=>no) (fun _ _=>no) (fun o=>.fail "") () (fun _ _ _ _=>()) (Bg p t):=Cz p t _
  have told:∀ φ a,TR ρ N φ t a->yielded ops a.tmps j=Pl (a.tmps.getD d undef):=fun φ a hT=>by
   have hlt:d<a.tmps.size:=by rw [hT.size]; exact hdN
   have h1:a.tmps.getD d undef=a.tmps[d]:=by rw [Array.getD_eq_getD_getElem?,Array.getElem?_eq_getElem hlt]; rfl
   rw [h1]
   unfold yielded
   rw [hd]
   simp only [Option.bind_some,Array.getElem?_eq_getElem hlt]
   cases a.tmps[d] <;> rfl
  have nope:∀ {v:V},Bg p t=v->(∀ φ x,AL ρ φ v x->∀ b,x ≠ .bool b)->∀ φ a,TR ρ N φ t a->Region.wanted o (yielded ops a.tmps)=false:=fun {v} hv hx φ a hT=>by
   have:=hT.at_ d p hdN hpN
   rw [hv] at this
   have hne:=hx φ _ this
   simp only [Region.wanted,hgd,told φ a hT,O1 hne]
   rfl
  rw [e1] at hg ⊢
  cases hv:Bg p t with
  | bool b =>
   rw [hv] at hg
   have rd:∀ φ a,TR ρ N φ t a->Region.wanted o (yielded ops a.tmps)=(some b == some want):=fun φ a hT=>by
    have:=hT.at_ d p hdN hpN
    rw [hv] at this
    have hb:=Dv this
    simp only [Region.wanted,hgd,told φ a hT,hb,Pl]
   cases b <;> cases want
   ·exact .inl ⟨rfl,fun φ a hT=>by rw [rd φ a hT]; rfl⟩
   ·exact .inr ⟨rfl,fun φ a hT=>by rw [rd φ a hT]; rfl⟩
   ·exact .inr ⟨rfl,fun φ a hT=>by rw [rd φ a hT]; rfl⟩
   ·exact .inl ⟨rfl,fun φ a hT=>by rw [rd φ a hT]; rfl⟩
  | oth _=>rw [hv] at hg; exact hg.elim
  | int k r=>exact .inr ⟨rfl,nope hv fun φ x hr b e=>by subst e; simp only [AL] at hr; obtain ⟨_,h⟩:=hr; cases h⟩
  | ptr q off=>exact .inr ⟨rfl,nope hv fun φ x hr b e=>by subst e; obtain ⟨_,_,_,_,h⟩:=CJ hr; cases h⟩
  | sl q off len cap ex esz=>exact .inr ⟨rfl,nope hv fun φ x hr b e=>by subst e; obtain ⟨_,_,_,_,_,_,h,_⟩:=CG hr; cases h⟩
  | str m c=>exact .inr ⟨rfl,nope hv fun φ x hr b e=>by subst e; obtain ⟨_,h,_⟩:=Ci hr; cases h⟩
  | agg l=>exact .inr ⟨rfl,nope hv fun φ x hr b e=>by subst e; obtain ⟨_,h,_⟩:=DV hr; cases h⟩
  | nil u=>exact .inr ⟨rfl,nope hv fun φ x hr b e=>by subst e; have h:=BS hr; cases u <;> cases h⟩
  | map q=>exact .inr ⟨rfl,nope hv fun φ x hr b e=>by subst e; obtain ⟨_,_,_,_,h⟩:=F8 hr; cases h⟩
  | fn f l=>exact .inr ⟨rfl,nope hv fun φ x hr b e=>by subst e; obtain ⟨_,h,_⟩:=Iw hr; cases h⟩
  | tup l=>exact .inr ⟨rfl,nope hv fun φ x hr b e=>by subst e; obtain ⟨_,h,_⟩:=PY hr; cases h⟩
def C6 (P:Program) (ops:Array Oper) (o:Oper) (a:Act) (w:World) (K:Act->World->Prop) (Q:Exit->Act->World->Prop):Prop :=
 if Region.wanted o (yielded ops a.tmps)=true then o.wp P a w K Q else K (a.put o.dst undef) w
theorem BG {ops:Array Oper} {o:Oper} {ao:AOp} (h:J1 P N ops o=some ao):Qv N o.dst ao.dst ∧
  (match o.guard with | none=>some none | some (j,w)=>((ops[j]?).bind (·.dst)).bind fun d=>(G4 N d).map fun s=>some (s,w):Option (Option (K2×Bool)))=some ao.g ∧
  (F0 P N o=some ao.k ∨ ∃ why,ao.k = .bad why):=by
 unfold J1 at h
 split at h
 ·rename_i d g hd hg
  cases h
  refine ⟨?_,hg,?_⟩
  ·cases hdst:o.dst with
   | none=>rw [hdst] at hd; simp only [Option.some.injEq] at hd; subst hd; trivial
   | some s =>
    rw [hdst] at hd
    obtain ⟨p,hp,rfl⟩:=AA hd
    exact Dj hp
  ·cases hk:F0 P N o with
   | none=>exact .inr ⟨_,rfl⟩
   | some k=>exact .inl rfl
 ·cases h
end
end Go.Ev

namespace Go.Ev
set_option linter.unusedVariables false
section
variable {P:Program} {ρ:Env} {B:Nat}
def IP:Ex->Exit
 | .nrm=>.normal
 | .exit id=>.exit id
 | .ret=>.ret
def Hg (P:Program) (ρ:Env) (B:Nat) (f:FuncId) (p:IG):Prop :=
 ∀ args h n v h1 n1,p args h n = .rv v h1 n1->∀ φ w (xs:Array Value),Gam ρ B h n φ w->Bs ρ φ args xs.toList →
  Jh P f xs w fun x w'=>∃ φ',Fr h h1 φ φ' n n1 w w'∧Gam ρ B h1 n1 φ' w'∧AL ρ φ' v x
def QX (ts:Array Value):ResultVar->Sem Value
 | .tmp t=>pure (ts.getD t undef)
 | .cell a t=>do loadVar t (←asAddr (ts.getD a undef))
theorem Pe (fn:Func) (ts:Array Value):results fn ts=(do
  let vs ←fn.results.mapM (QX ts)
  pure (if h:vs.size=1 then vs[0] else .tuple vs)):=rfl
theorem Rs {N:Nat} {r:ResultVar} {rs:List ResultVar} {x:ARes} {xs:List ARes} {t:Regs} {h:Heap} {κ:V->R} (hc:Cj P N (r::rs)=some (x::xs)) (hg:(KF x t h κ).good) :
  Cj P N rs=some xs ∧ ∃ v,KF x t h κ=κ v ∧ ∀ φ a w n,TR ρ N φ t a->Gam ρ B h n φ w →
   ∃ X,(QX a.tmps r).run P w = .ok X w∧AL ρ φ v X:=by
 cases r with
 | tmp s =>
  simp only [Cj] at hc
  split at hc
  ·rename_i p rs' hp hrs
   cases hc
   obtain ⟨hs,hp⟩:=Dj hp
   refine ⟨hrs,Bg p t,Cz p t κ,fun φ a w n hT g=>⟨a.tmps.getD s undef,rfl,hT.at_ s p hs hp⟩⟩
  ·cases hc
 | cell c ty =>
  simp only [Cj] at hc
  split at hc
  ·rename_i p ag m rs' hp hag hm hrs
   cases hc
   obtain ⟨hs,hp⟩:=Dj hp
   have e1:KF (.cel p (if ag then some m else none)) t h κ=IB (Bg p t) fun q off=>It q h fun cs _ _ =>
     @Option.rec Nat (fun _=>R) (FG cs off κ) (fun m=>BW cs off m fun y=>Ed y fun l=>κ (.agg l)) (if ag then some m else none):=Cz p t _
   rw [e1] at hg
   obtain ⟨q,off,hv,e2⟩:=CW hg
   rw [e2] at hg
   obtain ⟨cs,sup,prev,hq,e3⟩:=CP hg
   rw [e3] at hg
   have at1:∀ φ a w n,TR ρ N φ t a->Gam ρ B h n φ w->∃ b s tot c' e fr,φ q=some (b,s,tot)∧(asAddr (a.tmps.getD c undef)).run P w = .ok ⟨b,s+off,none⟩ w∧w.heap[b]? = some (.cells c' e fr)∧Ef ρ φ cs (fun i=>c'[s+i]?):=fun φ a w n hT g=>by
    have:=hT.at_ c p hs hp
    rw [hv] at this
    obtain ⟨b,s,tot,hφ,gx⟩:=CJ this
    obtain ⟨c',e,fr,k1,k2,k3,k4,k5⟩:=g.obj q _ b s tot hq hφ
    exact ⟨b,s,tot,c',e,fr,hφ,by rw [gx]; simp [asAddr],k1,k5⟩
   cases ag with
   | false =>
    obtain ⟨v,hv',e4⟩:=GK (show R.good (FG cs off κ) from hg)
    refine ⟨hrs,v,e1.trans (e2.trans (e3.trans e4)),fun φ a w n hT g=>?_⟩
    obtain ⟨b,s,tot,c',e,fr,hφ,had,k1,k5⟩:=at1 φ a w n hT g
    obtain ⟨X,hX,hr,_⟩:=k5 off v hv'
    exact ⟨X,by simp only [QX,Sem.run_bind,had,Result.andThen_ok]; simp [loadVar,CC hag,GL k1 hX],hr⟩
   | true =>
    obtain ⟨hle,y,hyl,hya,e4⟩:=Cu (show R.good (BW cs off m fun y=>Ed y fun l=>κ (.agg l)) from hg)
    obtain ⟨l,e5,hll,hla⟩:=Fo y fun l=>κ (.agg l)
    refine ⟨hrs,.agg l,e1.trans (e2.trans (e3.trans (Eq.trans e4 e5))),fun φ a w n hT g=>?_⟩
    obtain ⟨b,s,tot,c',e,fr,hφ,had,k1,k5⟩:=at1 φ a w n hT g
    obtain ⟨vs,q1,q2,q3,q4⟩:=HY (Gx k5 hyl hya)
    have hrun:=Fi (P:=P) (w:=w) (off:=s+off) vs k1 (fun j v hj=>by have:=q2 j v hj; rwa [←Nat.add_assoc] at this)
    rw [q1,hyl] at hrun
    refine ⟨.agg vs.toArray,by simp only [QX,Sem.run_bind,had,Result.andThen_ok]; simp [loadVar,CC hag,Bf hm,hrun],?_⟩
    simp only [AL]
    exact ⟨_,rfl,q4 l (by rw [hll]) hla,q3⟩
  ·cases hc
theorem Mo {N:Nat}:∀ {rs:List ResultVar} {xs:List ARes} {t:Regs} {h:Heap} {κ:List V->R},Cj P N rs=some xs->(Jn xs t h κ).good →
  ∃ vs,Jn xs t h κ=κ vs ∧ ∀ φ a w n,TR ρ N φ t a->Gam ρ B h n φ w →
   ∃ Xs,(rs.mapM (QX a.tmps)).run P w = .ok Xs w∧Bs ρ φ vs Xs
 | [],xs,t,h,κ,hc,hg=>by
  simp only [Cj,Option.some.injEq] at hc; subst hc
  exact ⟨[],rfl,fun φ a w n _ _=>⟨[],by simp,AT.2 rfl⟩⟩
 | r::rs,xs,t,h,κ,hc,hg=>by
  cases xs with
  | nil =>
   cases r with
   | tmp s=>simp only [Cj] at hc; split at hc <;> cases hc
   | cell c ty=>simp only [Cj] at hc; split at hc <;> cases hc
  | cons x xs =>
   have hg:R.good (KF x t h fun v=>Jn xs t h fun vs=>κ (v::vs)):=hg
   obtain ⟨hc',v,e1,H1⟩:=Rs (ρ:=ρ) (B:=B) hc hg
   rw [e1] at hg
   obtain ⟨vs,e2,H2⟩:=Mo hc' hg
   refine ⟨v::vs,Eq.trans e1 e2,fun φ a w n hT g=>?_⟩
   obtain ⟨X,r1,r2⟩:=H1 φ a w n hT g
   obtain ⟨Xs,q1,q2⟩:=H2 φ a w n hT g
   exact ⟨X::Xs,by simp only [List.mapM_cons,Sem.run_bind,r1,q1,Result.andThen_ok,Sem.run_pure],AJ.2 ⟨X,Xs,rfl,r2,q2⟩⟩
theorem Lj {fn:Func} {xs:List ARes} {t:Regs} {h:Heap} {n:K4} {v:V} {h1:Heap} {n1:K4} (hc:Cj P fn.ntmps fn.results.toList=some xs) (hr:Pm xs t h n = .rv v h1 n1) :
  h1=h∧n1=n ∧ ∀ φ a w,TR ρ fn.ntmps φ t a->Gam ρ B h n φ w->∃ X,(results fn a.tmps).run P w = .ok X w∧AL ρ φ v X:=by
 have hg:R.good (Pm xs t h n):=by rw [hr]; trivial
 obtain ⟨vs,e1,H⟩:=Mo (ρ:=ρ) (B:=B) hc (show R.good (Jn xs t h _) from hg)
 have e1:Pm xs t h n=_:=e1
 rw [hr] at e1
 have run:∀ (a:Act) (w:World) (Xs:List Value),(fn.results.toList.mapM (QX a.tmps)).run P w = .ok Xs w →
   (results fn a.tmps).run P w = .ok (if h:Xs.toArray.size=1 then Xs.toArray[0] else .tuple Xs.toArray) w:=fun a w Xs h=>by
  rw [Pe]
  simp only [Array.mapM_eq_mapM_toList,Sem.run_bind,Sem.run_map,h,Result.andThen_ok,Sem.run_pure]
 match vs,e1,H with
 | [],e1,H =>
  cases e1
  refine ⟨rfl,rfl,fun φ a w hT g=>?_⟩
  obtain ⟨Xs,q1,q2⟩:=H φ a w n hT g
  have:=AT.1 q2
  subst this
  exact ⟨_,run a w _ q1,by simp only [AL]; exact ⟨#[],by simp,AT.2 rfl⟩⟩
 | [u],e1,H =>
  cases e1
  refine ⟨rfl,rfl,fun φ a w hT g=>?_⟩
  obtain ⟨Xs,q1,q2⟩:=H φ a w n hT g
  obtain ⟨X,Ys,rfl,r1,r2⟩:=AJ.1 q2
  have:=AT.1 r2
  subst this
  exact ⟨_,run a w _ q1,by simpa using r1⟩
 | u::u'::us,e1,H =>
  cases e1
  refine ⟨rfl,rfl,fun φ a w hT g=>?_⟩
  obtain ⟨Xs,q1,q2⟩:=H φ a w n hT g
  have hl:=Be q2
  refine ⟨_,run a w _ q1,?_⟩
  rw [dif_neg (by simp [hl])]
  simp only [AL]
  exact ⟨_,rfl,q2⟩
theorem IF {N:Nat}:∀ {args:List V} {k:Nat} {l:List Nat} {ps:List K2} {t:Regs} {κ:Regs->R},(∀ i s,l[i]? = some s->s=k+i)->Fe N l=some ps->(QW args ps t κ).good →
  args.length=l.length ∧ ∃ t1,QW args ps t κ=κ t1 ∧ ∀ s p,K2.ofN s=some p->Bg p t1=if k≤s then (args[s - k]?).getD (Bg p t) else Bg p t
 | [],k,l,ps,t,κ,hl,hc,hg=>by
  cases l with
  | nil =>
   simp only [Fe,Option.some.injEq] at hc; subst hc
   exact ⟨rfl,t,rfl,fun s p hp=>by simp⟩
  | cons s l =>
   simp only [Fe] at hc
   split at hc
   ·cases hc; exact hg.elim
   ·cases hc
 | v::args,k,l,ps,t,κ,hl,hc,hg=>by
  cases l with
  | nil =>
   simp only [Fe,Option.some.injEq] at hc; subst hc
   exact hg.elim
  | cons s0 l =>
   simp only [Fe] at hc
   split at hc
   ·rename_i p ps' hp hps
    cases hc
    obtain ⟨_,hp⟩:=Dj hp
    have hs0:s0=k:=by have:=hl 0 s0 rfl; omega
    subst hs0
    have e1:QW (v::args) (p::ps') t κ=QW args ps' (DE p t v) κ:=MT p t v _
    rw [e1] at hg ⊢
    obtain ⟨h1,t1,e2,H⟩:=IF (k:=s0+1) (fun i s hi=>by have:=hl (i+1) s (by simpa using hi); omega) hps hg
    refine ⟨by simp [h1],t1,e2,fun s q hq=>?_⟩
    rw [H s q hq]
    by_cases hs:s0+1≤s
    ·have hne:p≠q:=fun e=>by subst e; have:=K2.ofN_inj hp hq; omega
     rw [if_pos hs,if_pos (by omega),Bt _ _ hne]
     have:s - s0=(s - (s0+1))+1:=by omega
     rw [this,List.getElem?_cons_succ]
    ·rw [if_neg hs]
     by_cases hs':s0≤s
     ·have:s=s0:=by omega
      subst this
      rw [if_pos (Nat.le_refl _)]
      rw [hp] at hq; cases hq
      simp [Bd]
     ·have hne:p≠q:=fun e=>by subst e; have:=K2.ofN_inj hp hq; omega
      rw [if_neg hs',Bt _ _ hne]
   ·cases hc
theorem IN {N:Nat}:∀ {l:List Nat} {ps:List K2},Fe N l=some ps->∀ s∈l,s<N
 | [],_,_,s,hs=>by simp at hs
 | s0::l,ps,hc,s,hs=>by
  simp only [Fe] at hc
  split at hc
  ·rename_i p ps' hp hps
   rcases List.mem_cons.1 hs with e | hs
   ·subst e; exact (Dj hp).1
   ·exact IN hps s hs
  ·cases hc
theorem Kv {f:FuncId} {a:AFn} (h:FZ P f=some a):∃ fn c ps rs,P.funcs[f]? = some fn∧fn.body=some c∧Fe fn.ntmps (List.range (fn.params.size+fn.nfree))=some ps∧Cj P fn.ntmps fn.results.toList=some rs ∧
  (fn.name == "runtime.NumGoroutine")=false∧a=⟨ps,AO P fn.ntmps c,rs⟩:=by
 unfold FZ at h
 split at h
 ·rename_i fn hf
  split at h
  ·rename_i c ps rs hb hps hrs
   split at h
   ·cases h
   ·rename_i hn
    cases h
    exact ⟨fn,c,ps,rs,hf,hb,hps,hrs,by simpa using hn,rfl⟩
  ·cases h
 ·cases h
end
end Go.Ev

namespace Go.Ev
set_option linter.unusedVariables false
set_option linter.unusedSimpArgs false
section
variable {cf:CF} {t t':Regs} {h:Heap} {n:K4} {κ:KV}
def Nu (t t':Regs) (l:List Opd):Prop:=∀ x∈l,ev x t=ev x t'
theorem DI {o:Option Opd} {d:Nat} {κ:Nat->R} (hh:∀ x∈o.toList,ev x t=ev x t'):Cp o t d κ=Cp o t' d κ:=by
 cases o with
 | none=>rfl
 | some x =>
  have:=hh x (by simp)
  show CV x t _=CV x t' _
  rw [AR,AR,this]
theorem Hu {l:List Opd} {κ:List V->R} (hh:Nu t t' l):Nw l t κ=Nw l t' κ:=by
 rw [F6,F6]
 congr 1
 exact List.map_congr_left hh
theorem HE {l:List Part}:∀ {z:List V} {κ:List V->R},(∀ p∈l,ev p.x t=ev p.x t')->D2 l t z κ=D2 l t' z κ:=by
 induction l with
 | nil=>intro z κ _; rfl
 | cons p l ih =>
  intro z κ hh
  obtain ⟨off,size,x⟩:=p
  have e1:∀ t,D2 (⟨off,size,x⟩::l) t z κ=DP (ev x t) fun c=>Gu c fun m=>br (Nat.beq m size) (KW z off c fun z=>D2 l t z κ) (.fail ""):=fun t=>AR x t _
  rw [e1,e1,hh ⟨off,size,x⟩ (by simp)]
  congr 1; funext c; congr 1; funext m; congr 1; congr 1; funext z
  exact ih fun p hp=>hh p (by simp [hp])
theorem Dp {k:AK} (hh:Nu t t' k.opds):GX k cf t h n κ=GX k cf t' h n κ:=by
 cases k
 case build z ps=>exact HE fun p hp=>hh p.x (List.mem_map.2 ⟨p,hp,rfl⟩)
 case bslice u8 len esz z ps=>exact HE fun p hp=>hh p.x (List.mem_map.2 ⟨p,hp,rfl⟩)
 case mkfn f l=>exact Hu hh
 case call f l=>exact Hu hh
 case calld x l =>
  have h1:ev x t=ev x t':=hh x (by simp [AK.opds])
  have h2:Nu t t' l:=fun y hy=>hh y (by simp [AK.opds,hy])
  show Eh x l cf t h n κ=Eh x l cf t' h n κ
  simp only [Eh,AR,h1]
  congr 1; funext f caps
  exact Hu h2
 case slS x lo hi =>
  have h1:ev x t=ev x t':=hh x (by simp [AK.opds])
  have h2:∀ y∈lo.toList,ev y t=ev y t':=fun y hy=>hh y (by simp [AK.opds]; simp at hy; simp [hy])
  have h3:∀ y∈hi.toList,ev y t=ev y t':=fun y hy=>hh y (by simp [AK.opds]; simp at hy; simp [hy])
  show HP x lo hi cf t h n κ=HP x lo hi cf t' h n κ
  simp only [HP,AR,h1,DI h2,DI h3]
 case slL e x lo hi =>
  have h1:ev x t=ev x t':=hh x (by simp [AK.opds])
  have h2:∀ y∈lo.toList,ev y t=ev y t':=fun y hy=>hh y (by simp [AK.opds]; simp at hy; simp [hy])
  have h3:∀ y∈hi.toList,ev y t=ev y t':=fun y hy=>hh y (by simp [AK.opds]; simp at hy; simp [hy])
  show If e x lo hi cf t h n κ=If e x lo hi cf t' h n κ
  simp only [If,AR,h1,DI h2,DI h3]
 case slA m e x lo hi =>
  have h1:ev x t=ev x t':=hh x (by simp [AK.opds])
  have h2:∀ y∈lo.toList,ev y t=ev y t':=fun y hy=>hh y (by simp [AK.opds]; simp at hy; simp [hy])
  have h3:∀ y∈hi.toList,ev y t=ev y t':=fun y hy=>hh y (by simp [AK.opds]; simp at hy; simp [hy])
  show HO m e x lo hi cf t h n κ=HO m e x lo hi cf t' h n κ
  simp only [HO,AR,h1,DI h2,DI h3]
 all_goals
  simp only [AK.opds,Nu,List.mem_cons,List.not_mem_nil,or_false,forall_eq_or_imp,forall_eq] at hh
  simp only [GX,Ue,Hz,On,HU,QU,M4,Rh,E1,JP,Rr,Lw,Mb,LO,Mw,IX,Ij,La,LL,HG,FM,Le,LB,LP,LX,Lc,M2,QQ,Rl,Mh,LZ,LI,LH,LQ,Lr,Mi,LF,IK,Lg,IL,Mz,LV,Qt,AR,hh]
end
end Go.Ev

namespace Go.Ev
set_option linter.unusedVariables false
section
variable {P:Program} {ρ:Env} {B N:Nat} {o:Oper} {cf:CF} {t:Regs} {h:Heap} {n:K4}
structure AllocOK (P:Program) (ρ:Env) (N:Nat) (o:Oper) (t:Regs) (r:K4) (v:V) (ob:Ob):Prop where
 prev:BQ ob=none
 run:∀ φ a w,TR ρ N φ t a->φ r=none->∃ x O tot w0,(execOp a.eval o).run P w = .ok (.value x) (w0.alloc O)∧(w0=w∨w0=w.drew) ∧
  AL ρ (E7 φ r (w.heap.size,0,tot)) v x ∧ ∀ (φ':B9) (w':World),B9.le φ φ'->w'.heap[w.heap.size]? = some O->Fd ρ φ' w' ob w.heap.size 0 tot
def GF (P:Program) (ρ:Env) (N:Nat) (o:Oper) (f:KV->R) (t:Regs) (h:Heap) (n:K4):Prop :=
 ∀ κ:KV,(f κ).good->∃ v ob n1,f κ=κ v (B6 n h (some ob)) n1∧AllocOK P ρ N o t n v ob
theorem Gw {φ:B9} {cs:Cs} {c:Array Value} {e:TypeId} {fr:Nat×Nat} {b:Nat} (hl:cs.len≤c.size) (hf:UF fr c.size) (hc:Ef ρ φ cs fun i=>c[i]?) :
  ∀ (φ':B9) (w':World),B9.le φ φ'->w'.heap[b]? = some (.cells c e fr)->Fd ρ φ' w' (.c cs false none) b 0 c.size:=fun φ' w' hle hw' =>
 ⟨c,e,fr,hw',rfl,by omega,hf,Fp hle (fun i v hv=>by rw [Nat.zero_add]; exact hc i v hv)⟩
theorem PA {e:TypeId} {z:List V} (ho:o.op = .alloc e) (hz:Da P e=some z):GF P ρ N o (On (.l z) cf t h n) t h n:=by
 intro κ hg
 obtain ⟨n',hn,e1⟩:=Bq (show R.good (D0 h n (.c (.l z) false none) fun h' n'=>κ (.ptr n 0) h' n') from hg)
 refine ⟨_,_,_,e1,⟨rfl,fun φ a w hT hr0=>?_⟩⟩
 unfold Da at hz
 cases hi:(P.info? e).bind (·.zero) with
 | none=>rw [hi] at hz; cases hz
 | some zv =>
  rw [hi] at hz
  obtain ⟨hl,h1⟩:=Ep (ρ:=ρ) (show Hc zv.cells.toList=some z from hz) φ
  have hc:=DJ hl h1
  have hob:=Gw (b:=w.heap.size) (e:=e) (fr:=(0,0)) (c:=zv.cells) (by have:=Be hl; simp only [Cs.len]; simp at this; omega) (Jk _) (cs:=.l z) (fun i v hv=>by simpa using hc i v hv)
  refine ⟨.pointer (some ⟨w.heap.size,0,none⟩),_,_,w,?_,.inl rfl,CS,hob⟩
  simp [execOp,ho,Instr.alloc,D7 hi,newVar,EJ]
theorem Pp {e:TypeId} {x:Operand} {x':Opd} (hρ:Bo ρ) (ho:o.op = .box e x) (hx:AX N x=some x'):GF P ρ N o (HU x' cf t h n) t h n:=by
 intro κ hg
 have e1:HU x' cf t h n κ=DP (ev x' t) fun l=>D0 h n (.c (.l l) false none) fun h' n'=>κ (.ptr n 0) h' n':=by simp only [HU,AR]
 rw [e1] at hg
 obtain ⟨hc,e2⟩:=F9 hg
 rw [e2] at hg
 obtain ⟨n',hn,e3⟩:=Bq hg
 refine ⟨_,_,_,e1.trans (e2.trans e3),⟨rfl,fun φ a w hT hr0=>?_⟩⟩
 obtain ⟨hl,h1⟩:=GW hρ hc (An hx hT)
 have hcs:=DJ hl h1
 have hob:=Gw (b:=w.heap.size) (e:=e) (fr:=(0,0)) (c:=(a.eval x).cells) (by have:=Be hl; simp only [Cs.len]; simp at this; omega) (Jk _) (cs:=.l (ev x' t).cl) (fun i v hv=>by simpa using hcs i v hv)
 refine ⟨.pointer (some ⟨w.heap.size,0,none⟩),_,_,w,?_,.inl rfl,CS,hob⟩
 simp [execOp,ho,Instr.box,newVar,EJ]
theorem MQ {ty:TypeId} (ho:o.op = .makeMap ty none):GF P ρ N o (HG cf t h n) t h n:=by
 intro κ hg
 obtain ⟨n',hn,e1⟩:=Bq (show R.good (D0 h n (.m [] [] 0) fun h' n'=>κ (.map n) h' n') from hg)
 refine ⟨_,_,_,e1,⟨rfl,fun φ a w hT hr0=>?_⟩⟩
 refine ⟨.map (some w.heap.size),.map #[] 0,0,w,by simp [execOp,ho,Instr.makeMap,run_newObj],.inl rfl,?_,fun φ' w' hle hw'=>⟨#[],hw',rfl,rfl⟩⟩
 ·simp only [AL]; exact ⟨w.heap.size,0,0,BT _ _ _,rfl⟩
theorem Pi {src dst e:TypeId} {x:Operand} {x':Opd} (ho:o.op = .convert src dst x) (hx:AX N x=some x') (hs:P.underlying src=some .string) (hd:P.underlying dst=some (.slice e)) (he:P.underlying e=some (.int .u8)) :
  GF P ρ N o (Ij x' cf t h n) t h n:=by
 intro κ hg
 have e1:Ij x' cf t h n κ=Bh (ev x' t) fun m c=>D0 h n (.c (.b m c) false none) fun h' n'=>κ (.sl n 0 m m false 1) h' n':=by simp only [Ij,AR]
 rw [e1] at hg
 obtain ⟨m,c,hxv,e2⟩:=BV hg
 rw [e2] at hg
 obtain ⟨n',hn,e3⟩:=Bq hg
 refine ⟨_,_,_,e1.trans (e2.trans e3),⟨rfl,fun φ a w hT hr0=>?_⟩⟩
 have g1:=An hx hT
 rw [hxv] at g1
 obtain ⟨s,gx,hsz,hc⟩:=Ci g1
 clear g1
 subst hsz hc
 -- the capacity is drawn
 obtain ⟨cap,w1,hcap,hrun,hw1⟩:∃ cap w1,s.size≤cap∧(choose (.appendCap s.size 0 e)).run P w = .ok cap w1∧w1=w.drew:=by
  refine ⟨_,_,?_,by rw [run_choose]; simp only [Question.forced,Bool.false_eq_true,if_false]; rfl,rfl⟩
  simp only [Question.cut]; omega
 subst hw1
 let cells:Array Value:=s.data.map (fun b=>Value.int .u8 b.toNat)++Array.replicate (cap - s.size) (.int .u8 0)
 have hsize:cells.size=cap:=by simp [cells]; omega
 have hcs:Ef ρ φ (.b s.size (B5 s.data.toList)) fun i=>cells[i]?:=fun i v hv=>by
  have hi:i<s.size:=Cs.lt_of_at hv
  rw [Cs.b_pos hi] at hv
  have hi':i<s.data.toList.length:=by rw [BH]; exact hi
  rw [HK _ _ hi'] at hv
  cases hv
  have hlt:=s.data.toList[i].toNat_lt
  refine ⟨.int .u8 (s.data.toList[i].toNat:Nat),?_,?_,rfl⟩
  ·have hi2:i<s.data.size:=hi
   show (s.data.map (fun b=>Value.int .u8 b.toNat)++Array.replicate (cap - s.size) (.int .u8 0))[i]? = _
   rw [Array.getElem?_append_left (by simpa using hi2),Array.getElem?_map,Array.getElem?_eq_getElem hi2]
   simp
  ·simp only [AL]
   exact ⟨by simp [Mk]; exact hlt,by rw [AI (by simp [Hk]; exact hlt)]⟩
 have hob:=Gw (b:=w.heap.size) (e:=e) (fr:=(cap,cap+1)) (c:=cells) (by simp only [Cs.len]; omega) (.inr (by rw [hsize]; exact Nat.le_refl _)) hcs
 refine ⟨.slice (some ⟨w.heap.size,0,none⟩) s.size cap,_,_,w.drew,?_,.inr rfl,?_,hob⟩
 ·simp only [execOp,ho,gx,convert,Sem.run_bind,run_underlying hs,run_underlying hd,run_underlying he,Result.andThen_ok,Conv.stringToBytes,hrun]
  have hrow:(newRow e (Array.map (fun b=>Value.int IntKind.u8 ↑b.toNat) s.data++Array.replicate (cap - s.size) (Value.int IntKind.u8 0))).run P w.drew = .ok ⟨w.heap.size,0,none⟩ (w.drew.alloc (.cells cells e)):=rfl
  simp only [hrow,Result.andThen_ok]
  have hsh:(w.drew.alloc (.cells cells e)).shape? w.heap.size=some (e,cap):=by
   have:(w.drew.alloc (.cells cells e)).heap[w.heap.size]? = some (.cells cells e):=by show (w.heap.push _)[w.heap.size]? = _; simp
   unfold World.shape?; rw [this]; simp [hsize]
  have hfz:(w.drew.alloc (.cells cells e)).freeze { block:=w.heap.size,off:=cap } 1=w.drew.alloc (.cells cells e (cap,cap+1)):=by
   exact (Gh (show (w.drew.alloc (.cells cells e)).heap[w.heap.size]? = some (.cells cells e (0,0)) from Ii (w:=w.drew))).trans (JX (w:=w.drew))
  simp only [markStringish,Sem.run_bind,run_shape,hsh,Result.andThen_ok,run_freeze,hfz,Sem.run_pure]
 ·simp only [AL]
  refine ⟨w.heap.size,0,cells.size,0,cap,BT _ _ _,rfl,Nat.le_refl _,hcap,(fun h=>by cases h),(fun _=>⟨rfl,by rw [hsize]; omega⟩)⟩
theorem KT {ty e:TypeId} {len s:Nat} {parts:Array (Nat×Operand)} {z:List V} {ps:List Part} {u8:Bool} (hρ:Bo ρ) (ho:o.op = .buildSlice ty len parts) (hu:P.underlying ty=some (.slice e)) (hs:Bv P e=some s) (hz:Da P e=some z)
  (hsz:s=z.length) (h0:0<s) (hbig:len*s≤2 ^ 24) (hps:Fc N (fun i=>some (i*s,s)) parts.toList=some ps):GF P ρ N o (Gs u8 len s (DO z len) ps cf t h n) t h n:=by
 intro κ hg
 obtain ⟨l,hl,e1,H⟩:=F7 hρ hps (show R.good (D2 ps t (DO z len) _) from hg)
 have e1:Gs u8 len s (DO z len) ps cf t h n κ=_:=e1
 rw [e1] at hg
 rw [CB] at hl
 obtain ⟨zv,it,hi,hzv,hr⟩:=CT (ρ:=ρ) hz
 have hits:it.size=s:=by unfold Bv at hs; rw [hi] at hs; simpa using hs
 -- the cells,whichever way they are kept
 have fin:∀ (cs:Cs) (n':K4),n'.toN=n.toN+1->cs.len=l.length->(∀ i,cs.at i=l[i]?)->AllocOK P ρ N o t n (.sl n 0 len len true s) (.c cs false none):=fun cs n' hn hcl hca=>⟨rfl,fun φ a w hT hr0=>by
  have hzl:=Be (hr φ).1
  obtain ⟨cells,k1,k2,k3⟩:=H φ a ((Array.range (len*s)).map (zv.cells[· % zv.cells.size]!)) hT (Cc.2 ⟨by simp [CB,hsz],fun i v hv=>by
    have hlt:i<len*z.length:=by
     rcases Nat.lt_or_ge i (len*z.length) with h' | h'
     ·exact h'
     ·rw [List.getElem?_eq_none (by rw [CB]; exact h')] at hv; cases hv
    rw [LR hlt] at hv
    obtain ⟨x,hx,hrx,_⟩:=DB (hr φ).1 (hr φ).2 (k:=len*s) (by rw [hsz]; exact hlt) hv
    exact ⟨x,by rw [Array.getElem?_toList]; exact hx,hrx⟩⟩) (fun y hy=>by
    obtain ⟨i,hi',rfl⟩:=List.getElem_of_mem hy
    have hlt:i<len*z.length:=by simpa [hsz] using hi'
    have hzp:i % z.length<z.length:=Nat.mod_lt _ (by omega)
    obtain ⟨x,hx,_,hox⟩:=DB (hr φ).1 (hr φ).2 (k:=len*s) (i:=i) (by rw [hsz]; exact hlt) (List.getElem?_eq_getElem hzp)
    have hx':=hx
    rw [←Array.getElem?_toList,List.getElem?_eq_getElem hi'] at hx'
    cases hx'; exact hox)
  have hcl2:=Be k2
  have hc:=DJ k2 k3
  have hob:=Gw (b:=w.heap.size) (e:=e) (fr:=(0,0)) (c:=cells) (cs:=cs) (by rw [hcl]; simp at hcl2; omega) (Jk _) (fun i v hv=>by rw [hca i] at hv; simpa using hc i v hv)
  refine ⟨.slice (some ⟨w.heap.size,0,none⟩) len len,_,_,w,?_,.inl rfl,FW (Nat.le_refl _) (by simp at hcl2; rw [hcl2,hl,hsz]; exact Nat.le_refl _),hob⟩
  have hfill:Instr.fill (fun i=>some (i*it.size,it.size)) ((Array.range (len*it.size)).map (zv.cells[· % zv.cells.size]!)) (parts.map fun (i,x)=>(i,a.eval x)).toList=some cells:=by
   rw [hits,Array.toList_map]; exact k1
  have hrun:(Instr.buildSlice ty len (parts.map fun (i,x)=>(i,a.eval x))).run P w = .ok (.slice (some ⟨w.heap.size,0,none⟩) len len) (w.alloc (.cells cells e)):=by
   by_cases h00:len*it.size=0
   ·have hfill':Instr.fill (fun i=>some (i*it.size,it.size)) #[] (parts.map fun (i,x)=>(i,a.eval x)).toList=some cells:=by
     have:(Array.range (len*it.size)).map (zv.cells[· % zv.cells.size]!) = #[]:=Array.eq_empty_of_size_eq_zero (by simp [h00])
     rw [this] at hfill; exact hfill
    simp only [Instr.buildSlice,Sem.run_bind,run_underlying hu,Result.andThen_ok,Bf hs]
    rw [←hits]
    simp only [h00]
    have hr0:∀ q:Array Value,(Array.range 0).map (fun x=>q[x % q.size]!) = #[]:=fun q=>Array.eq_empty_of_size_eq_zero (by simp)
    simp [hr0]
    rw [Array.toList_map] at hfill'
    rw [show (List.map (fun x:Nat×Operand=>(x.fst,a.eval x.snd)) parts.toList)=List.map (fun x=>match x with | (i,x)=>(i,a.eval x)) parts.toList from rfl,hfill']
    rfl
   ·exact run_buildSlice w ty e len _ cells it zv hu hi hzv (by rw [hits]; omega) h00 hfill
  simp only [execOp,ho,Sem.run_bind,hrun,Result.andThen_ok,Sem.run_pure]⟩
 cases u8 with
 | true =>
  have hg':R.good (CL l (fun m c=>D0 h n (.c (.b m c) false none) fun h' n'=>κ (.sl n 0 len len true s) h' n') (.fail "")):=hg
  obtain ⟨m,c,e2,hml,hma,_⟩:=Hv hg'
  rw [e2] at hg'
  obtain ⟨n',hn,e3⟩:=Bq hg'
  exact ⟨_,_,_,e1.trans (Eq.trans e2 e3),fin (.b m c) n' hn hml hma⟩
 | false =>
  obtain ⟨n',hn,e3⟩:=Bq (show R.good (D0 h n (.c (.l l) false none) fun h' n'=>κ (.sl n 0 len len true s) h' n') from hg)
  exact ⟨_,_,_,e1.trans e3,fin (.l l) n' hn rfl fun _=>rfl⟩
theorem Ox {ty e:TypeId} {l c:Operand} {l' c':Opd} {s eb:Nat} {z:List V} (ho:o.op = .makeSlice ty l c) (hl:AX N l=some l') (hc:AX N c=some c') (hu:P.underlying ty=some (.slice e)) (hs:Bv P e=some s) (hb:Ew P e=some eb) (hz:Da P e=some z)
  (hsz:s=z.length) (h0:0<s) (hb0:0<eb):GF P ρ N o (FM eb (KU z) z l' c' cf t h n) t h n:=by
 intro κ hg
 have e1:FM eb (KU z) z l' c' cf t h n κ=Ip (ev l' t) fun a=>Ip (ev c' t) fun b=>br (Nat.ble a b) (br (Nat.ble (Nat.mul eb b) 281474976710656) (EL (KU z) z b fun y=>D0 h n (.c y false none) fun h' n'=>κ (.sl n 0 a b true z.length) h' n') (.fail "")) (.fail ""):=by
  simp only [FM,AR,Dd]
 rw [e1] at hg
 obtain ⟨k1,a,hlv,ha,e2⟩:=D9 hg
 rw [e2] at hg
 obtain ⟨k2,b,hcv,hbv,e3⟩:=D9 hg
 rw [e3] at hg
 obtain ⟨h4,e4⟩:=Ap hg
 rw [e4] at hg
 obtain ⟨h5,e5⟩:=Ap hg
 rw [e5] at hg
 have h4:=Ar.1 h4
 have h5:eb*b≤281474976710656:=Ar.1 h5
 obtain ⟨y,e6,hyl,hya⟩:=GN (KU z) z b (fun y=>D0 h n (.c y false none) fun h' n'=>κ (.sl n 0 a b true z.length) h' n') MP
 rw [e6] at hg
 obtain ⟨n',hn,e7⟩:=Bq hg
 refine ⟨_,_,_,e1.trans (e2.trans (e3.trans (e4.trans (e5.trans (e6.trans e7))))),⟨rfl,fun φ ac w hT hr0=>?_⟩⟩
 have g1:=An hl hT
 rw [hlv] at g1
 have gl:=EI ha g1
 have g2:=An hc hT
 rw [hcv] at g2
 have gc:=EI hbv g2
 obtain ⟨zv,it,hi,hzv,hr⟩:=CT (ρ:=ρ) hz
 have hits:it.size=s:=by unfold Bv at hs; rw [hi] at hs; simpa using hs
 have hitb:it.bytes=eb:=by unfold Ew at hb; rw [hi] at hb; simpa using hb
 have hb63:b≤281474976710656:=Nat.le_trans (Nat.le_mul_of_pos_left b hb0) h5
 have hrun:=run_make (P:=P) w ty e it zv hu hi hzv k1 k2 (a:Int) (b:Int) (by omega) (by omega) (by rw [hitb,←Int.natCast_mul]; exact Int.ofNat_le.2 h5) (by omega)
 have hob:=Gw (b:=w.heap.size) (e:=e) (fr:=(0,0)) (c:=madeCells zv.cells (b*it.size)) (cs:=y) (by rw [size_madeCells,hyl,hits,hsz]; exact Nat.le_refl _) (Jk _) (fun i v hv=>by
  have hlt:=Cs.lt_of_at hv
  rw [hyl] at hlt
  rw [hya i hlt] at hv
  exact DB (hr φ).1 (hr φ).2 (k:=b*it.size) (by rw [hits,hsz]; exact hlt) hv)
 refine ⟨.slice (some ⟨w.heap.size,0,none⟩) a b,_,_,w,?_,.inl rfl,FW h4 (by rw [size_madeCells,hits,hsz]; exact Nat.le_refl _),hob⟩
 simp only [execOp,ho,gl,gc,Sem.run_bind,hrun,Result.andThen_ok,Sem.run_pure,Int.toNat_natCast]
end
end Go.Ev
