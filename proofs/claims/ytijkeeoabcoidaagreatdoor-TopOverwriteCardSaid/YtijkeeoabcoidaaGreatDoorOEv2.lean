/- AN EVALUATOR OF THE MODEL OF Go, PROVED SOUND, PART 2: what it says of a call holds in every world, on every tape. Conditions: none of its own; each theorem bears its premises. -/
import Derived.Test.YtijkeeoabcoidaaGreatDoorOEv1
import Derived.Great.BuildSlice
import Derived.Laws.AppendOwn
import Derived.Laws.BytesString
import Derived.Laws.MakeOwn
import Derived.LoopN
noncomputable section
set_option linter.unusedSimpArgs false
set_option linter.unusedVariables false
namespace Go.Ev
set_option linter.unusedVariables false
section
variable {P:Program} {ρ:Env} {B N:Nat} {o:Oper} {cf:CF} {t:Regs} {h:Heap} {n:K4}
theorem JK {f:KV->R} {v:V} (e:∀ κ,f κ=κ v h n)
  (H:∀ φ a w,TR ρ N φ t a->Gam ρ B h n φ w->∃ x,(execOp a.eval o).run P w = .ok (.value x) w∧AG ρ φ v x):Bo P ρ B N o f t h n :=
 fun κ _=>⟨v,e κ,H⟩
theorem In {y:Operand} {x:Opd} (ho:o.op = .move y∨o.op = .assign y) (hx:AY N y=some x):Bo P ρ B N o (Uh x cf t h n) t h n :=
 JK (v:=ev x t) (fun κ=>AS x t _) fun φ a w ht hg=>⟨a.eval y,by rcases ho with ho | ho <;> simp [execOp,ho],Am hx ht⟩
theorem KG {c x y:Operand} {c' x' y':Opd} (ho:o.op = .pick c x y) (hc:AY N c=some c') (hx:AY N x=some x') (hy:AY N y=some y') :
  Bo P ρ B N o (HD c' x' y' cf t h n) t h n:=by
 intro κ hg
 have e:HD c' x' y' cf t h n κ=P3 (ev c' t) fun q=>br q (κ (ev x' t) h n) (κ (ev y' t) h n):=by simp only [HD,AS]
 rw [e] at hg
 obtain ⟨b,hb,e'⟩:=EM hg
 refine ⟨if b then ev x' t else ev y' t,e.trans (e'.trans (by cases b <;> rfl)),fun φ a w ht hg=>?_⟩
 have h1:=Am hc ht
 rw [hb] at h1
 have h1:=Du h1
 refine ⟨if b then a.eval x else a.eval y,by simp [execOp,ho,h1,asBool],?_⟩
 cases b
 ·exact Am hy ht
 ·exact Am hx ht
theorem RX {op:BinOp} {x y:V} {κ:V->R} (h:(MU op x y κ).good) :
  (∃ k a j b,x = .int k a∧y = .int j b∧MU op x y κ=La op k a j b κ)∨(∃ n c m d,x = .str n c∧y = .str m d∧MU op x y κ=Jw op n c m d κ)∨MU op x y κ=JA op x y κ ∨ ∃ l0 l1 n c m d,x = .oth (.ss l0 l1 n c)∧y = .str m d∧MU op x y κ=Qe op l0 l1 n c m d κ:=by
 cases x with
 | int k a =>
  cases y with
  | int j b=>exact .inl ⟨k,a,j,b,rfl,rfl,rfl⟩
  | oth o=>exact .inr (.inr (.inl rfl))
  | _=>exact h.elim
 | str n c =>
  obtain ⟨m,d,rfl,e⟩:=BX (show R.good (Bl y fun m d=>Jw op n c m d κ) from h)
  exact .inr (.inl ⟨n,c,m,d,rfl,rfl,rfl⟩)
 | oth o =>
  have e0:MU op (.oth o) y κ=Cn op (.oth o) y κ:=rfl
  rcases IL (.oth o) (fun l0 l1 n c=>Bl y fun m d=>Qe op l0 l1 n c m d κ) (JA op (.oth o) y κ) with ⟨l0,l1,n,c,e,e1⟩ | e1
  ·rw [e0] at h
   have e1:Cn op (.oth o) y κ=_:=e1
   rw [e1] at h
   obtain ⟨m,d,rfl,e2⟩:=BX h
   exact .inr (.inr (.inr ⟨l0,l1,n,c,m,d,e,rfl,e0.trans (e1.trans e2)⟩))
  ·exact .inr (.inr (.inl (e0.trans e1)))
 | _=>exact h.elim
theorem HP {op:BinOp} {ty yt:TypeId} {x y:Operand} {a:Act} {w:World} {r:Value} (ho:o.op = .binOp op ty x y yt)
  (he:eqGuard op ty x y (a.eval x) (a.eval y)=Pure.pure ()) (hr:(Go.binOp op ty (a.eval x) (a.eval y)).run P w = .ok r w):(execOp a.eval o).run P w = .ok (.value r) w:=by
 simp [execOp,ho,he,hr]
theorem Vc {f:V->R} {c:Bool} {u v:V}:∃ x,br c (f u) (f v)=f x:=by
 cases c
 ·exact ⟨v,rfl⟩
 ·exact ⟨u,rfl⟩
theorem C9 {v:V} {κ:IntKind->Nat->Nat->R} (hg:(HI v κ).good):∃ k lo hi,HI v κ=κ k lo hi ∧ ∀ (ρ:Env) (φ:B6) X,AG ρ φ v X->∃ r,lo≤r∧r≤hi∧r<Mk k∧X = .int k (BF k r):=by
 cases v with
 | int k r=>exact ⟨k,r,r,rfl,fun ρ φ X hx=>by simp only [AG] at hx; exact ⟨r,Nat.le_refl _,Nat.le_refl _,hx.1,hx.2⟩⟩
 | oth o=>cases o with
  | iv k lo hi=>exact ⟨k,lo,hi,rfl,fun ρ φ X hx=>by simpa only [AG] using hx⟩
  | rs m j =>
   obtain ⟨h1,e⟩:=Ao (show R.good (br (Nat.ble 18446744073709551616 m) (br (Nat.ble (Nat.succ m) 36893488147419103232) (κ .i64 0 9223372036854775807) (.fail "")) (.fail "")) from hg)
   have hg:R.good (br (Nat.ble 18446744073709551616 m) (br (Nat.ble (Nat.succ m) 36893488147419103232) (κ .i64 0 9223372036854775807) (.fail "")) (.fail "")):=hg
   rw [e] at hg
   obtain ⟨h2,e2⟩:=Ao hg
   refine ⟨.i64,0,9223372036854775807,e.trans e2,fun ρ φ X hx=>?_⟩
   simp only [AG] at hx
   obtain ⟨z,rfl,z1,z2,z3,z4,_⟩:=hx
   have:=z4 (Ap.1 h1) (Ap.1 h2)
   refine ⟨z.toNat,by omega,by omega,by simp only [Mk]; omega,?_⟩
   rw [AA (by simp only [Hk]; omega)]
   congr 1; omega
  | sy k i =>
   refine ⟨k,0,Nat.sub (Mk k) 1,rfl,fun ρ φ X hx=>?_⟩
   simp only [AG] at hx
   obtain ⟨_,r,h1,h2⟩:=hx
   exact ⟨r,Nat.zero_le _,show r≤Mk k - 1 by omega,h1,h2⟩
  | _=>exact hg.elim
 | _=>exact hg.elim
theorem E4 {k:IntKind} {r s:Nat} (hr:r<Mk k) (hs:s<Mk k):(BF k r<BF k s ↔ By (Hk k) (Mk k) r<By (Hk k) (Mk k) s)∧(BF k r=BF k s ↔ By (Hk k) (Mk k) r=By (Hk k) (Mk k) s):=by
 have hH:=GF k
 have e:∀ r,r<Mk k->BF k r=(By (Hk k) (Mk k) r:Int) - ((Mk k - Hk k:Nat):Int):=fun r hr=>by
  unfold By
  by_cases h:Hk k≤r
  ·rw [Ap.2 h,AQ,CL (by omega)]
   show _=((r - Hk k:Nat):Int) - _
   omega
  ·rw [Bp (by omega),AO,AA (by omega)]
   show _=((r+(Mk k - Hk k):Nat):Int) - _
   omega
 rw [e r hr,e s hs]
 constructor <;> omega
theorem Ce {H M lo hi r:Nat} (ho:Ey H lo hi=true) (h1:lo≤r) (h2:r≤hi):By H M lo≤By H M r∧By H M r≤By H M hi:=by
 unfold Ey at ho
 unfold By
 by_cases h:hi+1≤H
 ·rw [Bp (by omega),Bp (by omega),Bp (by omega)]
  simp only [AO]
  exact ⟨Nat.add_le_add_right h1 _,Nat.add_le_add_right h2 _⟩
 ·rw [Bp (by omega),AO] at ho
  have ho:=Ap.1 ho
  rw [Ap.2 (by omega),Ap.2 (by omega),Ap.2 (by omega)]
  simp only [AQ]
  exact ⟨Nat.sub_le_sub_right h1 _,Nat.sub_le_sub_right h2 _⟩
theorem Ed {ρ:Env} {φ:B6} (b:Bool):AG ρ φ (.oth .bl) (.bool b):=by simp only [AG]; exact ⟨b,rfl⟩
theorem QA (a b c d:Nat) (κ:V->R):∃ v,Us a b c d κ=κ v ∧ ∀ p q,a≤p->p≤b->c≤q->q≤d->∀ (ρ:Env) (φ:B6),AG ρ φ v (.bool (decide (p<q))):=by
 unfold Us
 by_cases h1:b+1≤c
 ·exact ⟨.bool true,by rw [Ap.2 h1,AQ],fun p q _ _ _ _ ρ φ=>by rw [decide_eq_true (by omega)]; exact BH _ ρ φ⟩
 ·rw [Bp (by omega),AO]
  by_cases h2:d≤a
  ·exact ⟨.bool false,by rw [Ap.2 h2,AQ],fun p q _ _ _ _ ρ φ=>by rw [decide_eq_false (by omega)]; exact BH _ ρ φ⟩
  ·exact ⟨_,by rw [Bp (by omega),AO],fun p q _ _ _ _ ρ φ=>Ed _⟩
theorem Qr (a b c d:Nat) (κ:V->R):∃ v,Uw a b c d κ=κ v ∧ ∀ p q,a≤p->p≤b->c≤q->q≤d->∀ (ρ:Env) (φ:B6),AG ρ φ v (.bool (decide (q≤p))):=by
 unfold Uw
 by_cases h1:b+1≤c
 ·exact ⟨.bool false,by rw [Ap.2 h1,AQ],fun p q _ _ _ _ ρ φ=>by rw [decide_eq_false (by omega)]; exact BH _ ρ φ⟩
 ·rw [Bp (by omega),AO]
  by_cases h2:d≤a
  ·exact ⟨.bool true,by rw [Ap.2 h2,AQ],fun p q _ _ _ _ ρ φ=>by rw [decide_eq_true (by omega)]; exact BH _ ρ φ⟩
  ·exact ⟨_,by rw [Bp (by omega),AO],fun p q _ _ _ _ ρ φ=>Ed _⟩
theorem Ml {a b c d:Nat} (h:M2 a b c d=true):a=b∧b=c∧c=d:=by
 unfold M2 at h
 cases h1:Nat.beq a b with
 | false=>rw [h1] at h; cases h
 | true =>
  rw [h1,AQ] at h
  cases h2:Nat.beq b c with
  | false=>rw [h2] at h; cases h
  | true=>rw [h2,AQ] at h; exact ⟨Nat.eq_of_beq_eq_true h1,Nat.eq_of_beq_eq_true h2,Nat.eq_of_beq_eq_true h⟩
theorem Uq (a b c d:Nat) (κ:V->R):∃ v,VQ a b c d κ=κ v ∧ ∀ p q,a≤p->p≤b->c≤q->q≤d->∀ (ρ:Env) (φ:B6),AG ρ φ v (.bool (decide (p=q))):=by
 unfold VQ
 by_cases h1:b+1≤c
 ·exact ⟨.bool false,by rw [Ap.2 h1,AQ],fun p q _ _ _ _ ρ φ=>by rw [decide_eq_false (by omega)]; exact BH _ ρ φ⟩
 ·rw [Bp (by omega),AO]
  by_cases h2:d+1≤a
  ·exact ⟨.bool false,by rw [Ap.2 h2,AQ],fun p q _ _ _ _ ρ φ=>by rw [decide_eq_false (by omega)]; exact BH _ ρ φ⟩
  ·rw [Bp (by omega),AO]
   cases h3:M2 a b c d with
   | true=>obtain ⟨h4,h5,h6⟩:=Ml h3; exact ⟨.bool true,by rw [AQ],fun p q _ _ _ _ ρ φ=>by rw [decide_eq_true (by omega)]; exact BH _ ρ φ⟩
   | false=>exact ⟨_,by rw [AO],fun p q _ _ _ _ ρ φ=>Ed _⟩
theorem TX (a b c d:Nat) (κ:V->R):∃ v,VK a b c d κ=κ v ∧ ∀ p q,a≤p->p≤b->c≤q->q≤d->∀ (ρ:Env) (φ:B6),AG ρ φ v (.bool (decide (p≠q))):=by
 unfold VK
 by_cases h1:b+1≤c
 ·exact ⟨.bool true,by rw [Ap.2 h1,AQ],fun p q _ _ _ _ ρ φ=>by rw [decide_eq_true (by omega)]; exact BH _ ρ φ⟩
 ·rw [Bp (by omega),AO]
  by_cases h2:d+1≤a
  ·exact ⟨.bool true,by rw [Ap.2 h2,AQ],fun p q _ _ _ _ ρ φ=>by rw [decide_eq_true (by omega)]; exact BH _ ρ φ⟩
  ·rw [Bp (by omega),AO]
   cases h3:M2 a b c d with
   | true=>obtain ⟨h4,h5,h6⟩:=Ml h3; exact ⟨.bool false,by rw [AQ],fun p q _ _ _ _ ρ φ=>by rw [decide_eq_false (by omega)]; exact BH _ ρ φ⟩
   | false=>exact ⟨_,by rw [AO],fun p q _ _ _ _ ρ φ=>Ed _⟩
theorem PB {op:BinOp} {κ:V->R} (hg:(Hl op κ).good):Hl op κ=κ (.oth .bl) ∧ ∀ k p q,DD op (.int k p) (.int k q) (.oth .bl):=by
 cases op with
 | lss=>exact ⟨rfl,fun k p q=>⟨.bool (decide (p<q)),fun P t w=>by rw [binOp_lss,Sem.run_pure],fun ρ φ=>Ed _⟩⟩
 | gtr=>exact ⟨rfl,fun k p q=>⟨.bool (decide (p > q)),fun P t w=>by rw [binOp_gtr,Sem.run_pure],fun ρ φ=>Ed _⟩⟩
 | leq=>exact ⟨rfl,fun k p q=>⟨.bool (decide (p≤q)),fun P t w=>by rw [binOp_leq,Sem.run_pure],fun ρ φ=>Ed _⟩⟩
 | geq=>exact ⟨rfl,fun k p q=>⟨.bool (decide (p ≥ q)),fun P t w=>by rw [binOp_geq,Sem.run_pure],fun ρ φ=>Ed _⟩⟩
 | eql=>exact ⟨rfl,fun k p q=>⟨.bool (p == q),fun P t w=>by rw [binOp_eql,Sem.run_pure],fun ρ φ=>Ed _⟩⟩
 | neq=>exact ⟨rfl,fun k p q=>⟨.bool (p != q),fun P t w=>by rw [binOp_neq,Sem.run_pure],fun ρ φ=>Ed _⟩⟩
 | _=>exact hg.elim
theorem Rv {op:BinOp} {x y:V} {κ:V->R} (hg:(Ge op x y κ).good):∃ v,Ge op x y κ=κ v ∧ ∀ (ρ:Env) (φ:B6) X Y,AG ρ φ x X->AG ρ φ y Y →
  ∃ k p q,X = .int k p∧Y = .int k q∧DD op X Y v:=by
 unfold Ge at hg ⊢
 obtain ⟨k,a,b,e1,H1⟩:=C9 hg
 rw [e1] at hg ⊢
 obtain ⟨j,c,d,e2,H2⟩:=C9 hg
 rw [e2] at hg ⊢
 obtain ⟨hk,e3⟩:=Ao hg
 rw [e3] at hg ⊢
 obtain rfl:=Bg.1 hk
 have any0:∀ {κ':V->R},(Hl op κ').good->∃ v,Hl op κ'=κ' v ∧ ∀ (ρ:Env) (φ:B6) X Y,AG ρ φ x X->AG ρ φ y Y->∃ k p q,X = .int k p∧Y = .int k q∧DD op X Y v:=fun hg=>by
  obtain ⟨e,H⟩:=PB hg
  refine ⟨_,e,fun ρ φ X Y hX hY=>?_⟩
  obtain ⟨r,r1,r2,r3,rfl⟩:=H1 ρ φ X hX
  obtain ⟨s,s1,s2,s3,rfl⟩:=H2 ρ φ Y hY
  exact ⟨k,_,_,rfl,rfl,H k _ _⟩
 have any:∀ {κ':V->R},(SC op a b c d κ').good->∃ v,SC op a b c d κ'=κ' v ∧ ∀ (ρ:Env) (φ:B6) X Y,AG ρ φ x X->AG ρ φ y Y->∃ k p q,X = .int k p∧Y = .int k q∧DD op X Y v:=fun {κ'} hg=>by
  unfold SC at hg ⊢
  cases ha:br (Nat.ble (Nat.succ b) c) true (Nat.ble (Nat.succ d) a) with
  | false=>rw [ha] at hg; exact any0 hg
  | true =>
   rw [ha] at hg
   have hap:b<c∨d<a:=by
    cases h1:Nat.ble (Nat.succ b) c with
    | true=>exact .inl (Ap.1 h1)
    | false =>
     rw [h1] at ha
     exact .inr (Ap.1 (show Nat.ble (Nat.succ d) a=true from ha))
   have ne:∀ (ρ:Env) (φ:B6) X Y,AG ρ φ x X->AG ρ φ y Y->∃ r s,X = .int k (BF k r)∧Y = .int k (BF k s)∧BF k r≠BF k s:=fun ρ φ X Y hX hY=>by
    obtain ⟨r,r1,r2,r3,rfl⟩:=H1 ρ φ X hX
    obtain ⟨s,s1,s2,s3,rfl⟩:=H2 ρ φ Y hY
    exact ⟨r,s,rfl,rfl,fun h=>by have:=Jz r3 s3 h; omega⟩
   by_cases he:op = .eql
   ·subst he
    refine ⟨.bool false,rfl,fun ρ φ X Y hX hY=>?_⟩
    obtain ⟨r,s,rfl,rfl,h⟩:=ne ρ φ X Y hX hY
    refine ⟨k,_,_,rfl,rfl,.bool false,fun P t w=>?_,fun ρ φ=>by simp only [AG]⟩
    rw [binOp_eql,Sem.run_pure]
    congr 2
    exact beq_false_of_ne h
   ·by_cases he2:op = .neq
    ·subst he2
     refine ⟨.bool true,rfl,fun ρ φ X Y hX hY=>?_⟩
     obtain ⟨r,s,rfl,rfl,h⟩:=ne ρ φ X Y hX hY
     refine ⟨k,_,_,rfl,rfl,.bool true,fun P t w=>?_,fun ρ φ=>by simp only [AG]⟩
     rw [binOp_neq,Sem.run_pure]
     congr 2
     exact bne_iff_ne.2 h
    ·have e:Uo op κ' (Hl op κ')=Hl op κ':=by cases op <;> first | rfl | exact absurd rfl he | exact absurd rfl he2
     have hg:(Uo op κ' (Hl op κ')).good:=hg
     rw [e] at hg
     show ∃ v,Uo op κ' (Hl op κ')=_∧_
     rw [e]
     exact any0 hg
 cases o1:Ey (Hk k) a b with
 | false=>rw [o1] at hg; exact any hg
 | true =>
 rw [o1,AQ] at hg
 show ∃ v,br (Ey (Hk k) c d) _ _=_∧_
 cases o2:Ey (Hk k) c d with
 | false=>rw [o2] at hg; exact any hg
 | true =>
 rw [o2,AQ] at hg
 show ∃ v,WU op _ _ _ _ κ=_∧_
 have bd:∀ (ρ:Env) (φ:B6) X Y,AG ρ φ x X->AG ρ φ y Y->∃ r s,X = .int k (BF k r)∧Y = .int k (BF k s)∧r<Mk k∧s<Mk k ∧
   By (Hk k) (Mk k) a≤By (Hk k) (Mk k) r∧By (Hk k) (Mk k) r≤By (Hk k) (Mk k) b∧By (Hk k) (Mk k) c≤By (Hk k) (Mk k) s∧By (Hk k) (Mk k) s≤By (Hk k) (Mk k) d:=fun ρ φ X Y hX hY=>by
  obtain ⟨r,r1,r2,r3,rfl⟩:=H1 ρ φ X hX
  obtain ⟨s,s1,s2,s3,rfl⟩:=H2 ρ φ Y hY
  have:=Ce (M:=Mk k) o1 r1 r2
  have:=Ce (M:=Mk k) o2 s1 s2
  exact ⟨r,s,rfl,rfl,r3,s3,by omega,by omega,by omega,by omega⟩
 cases op with
 | lss =>
  obtain ⟨v,e,H⟩:=QA (By (Hk k) (Mk k) a) (By (Hk k) (Mk k) b) (By (Hk k) (Mk k) c) (By (Hk k) (Mk k) d) κ
  refine ⟨v,e,fun ρ φ X Y hX hY=>?_⟩
  obtain ⟨r,s,rfl,rfl,hr,hs,k1,k2,k3,k4⟩:=bd ρ φ X Y hX hY
  refine ⟨k,_,_,rfl,rfl,.bool (decide (By (Hk k) (Mk k) r<By (Hk k) (Mk k) s)),fun P t w=>?_,fun ρ φ=>H _ _ k1 k2 k3 k4 ρ φ⟩
  rw [binOp_lss,Sem.run_pure,decide_eq_decide.2 (E4 hr hs).1]
 | gtr =>
  obtain ⟨v,e,H⟩:=QA (By (Hk k) (Mk k) c) (By (Hk k) (Mk k) d) (By (Hk k) (Mk k) a) (By (Hk k) (Mk k) b) κ
  refine ⟨v,e,fun ρ φ X Y hX hY=>?_⟩
  obtain ⟨r,s,rfl,rfl,hr,hs,k1,k2,k3,k4⟩:=bd ρ φ X Y hX hY
  refine ⟨k,_,_,rfl,rfl,.bool (decide (By (Hk k) (Mk k) s<By (Hk k) (Mk k) r)),fun P t w=>?_,fun ρ φ=>H _ _ k3 k4 k1 k2 ρ φ⟩
  rw [binOp_gtr,Sem.run_pure]
  congr 2
  exact decide_eq_decide.2 (E4 hs hr).1
 | leq =>
  obtain ⟨v,e,H⟩:=Qr (By (Hk k) (Mk k) c) (By (Hk k) (Mk k) d) (By (Hk k) (Mk k) a) (By (Hk k) (Mk k) b) κ
  refine ⟨v,e,fun ρ φ X Y hX hY=>?_⟩
  obtain ⟨r,s,rfl,rfl,hr,hs,k1,k2,k3,k4⟩:=bd ρ φ X Y hX hY
  refine ⟨k,_,_,rfl,rfl,.bool (decide (By (Hk k) (Mk k) r≤By (Hk k) (Mk k) s)),fun P t w=>?_,fun ρ φ=>H _ _ k3 k4 k1 k2 ρ φ⟩
  rw [binOp_leq,Sem.run_pure]
  congr 2
  exact decide_eq_decide.2 (by have:=(E4 hs hr).1; omega)
 | geq =>
  obtain ⟨v,e,H⟩:=Qr (By (Hk k) (Mk k) a) (By (Hk k) (Mk k) b) (By (Hk k) (Mk k) c) (By (Hk k) (Mk k) d) κ
  refine ⟨v,e,fun ρ φ X Y hX hY=>?_⟩
  obtain ⟨r,s,rfl,rfl,hr,hs,k1,k2,k3,k4⟩:=bd ρ φ X Y hX hY
  refine ⟨k,_,_,rfl,rfl,.bool (decide (By (Hk k) (Mk k) s≤By (Hk k) (Mk k) r)),fun P t w=>?_,fun ρ φ=>H _ _ k1 k2 k3 k4 ρ φ⟩
  rw [binOp_geq,Sem.run_pure]
  congr 2
  exact decide_eq_decide.2 (by have:=(E4 hr hs).1; omega)
 | eql =>
  obtain ⟨v,e,H⟩:=Uq (By (Hk k) (Mk k) a) (By (Hk k) (Mk k) b) (By (Hk k) (Mk k) c) (By (Hk k) (Mk k) d) κ
  refine ⟨v,e,fun ρ φ X Y hX hY=>?_⟩
  obtain ⟨r,s,rfl,rfl,hr,hs,k1,k2,k3,k4⟩:=bd ρ φ X Y hX hY
  refine ⟨k,_,_,rfl,rfl,.bool (decide (By (Hk k) (Mk k) r=By (Hk k) (Mk k) s)),fun P t w=>?_,fun ρ φ=>H _ _ k1 k2 k3 k4 ρ φ⟩
  rw [binOp_eql,Sem.run_pure]
  congr 2
  rw [Bool.eq_iff_iff,beq_iff_eq,decide_eq_true_iff]
  exact (E4 hr hs).2
 | neq =>
  obtain ⟨v,e,H⟩:=TX (By (Hk k) (Mk k) a) (By (Hk k) (Mk k) b) (By (Hk k) (Mk k) c) (By (Hk k) (Mk k) d) κ
  refine ⟨v,e,fun ρ φ X Y hX hY=>?_⟩
  obtain ⟨r,s,rfl,rfl,hr,hs,k1,k2,k3,k4⟩:=bd ρ φ X Y hX hY
  refine ⟨k,_,_,rfl,rfl,.bool (decide (By (Hk k) (Mk k) r≠By (Hk k) (Mk k) s)),fun P t w=>?_,fun ρ φ=>H _ _ k1 k2 k3 k4 ρ φ⟩
  rw [binOp_neq,Sem.run_pure]
  congr 2
  rw [Bool.eq_iff_iff,bne_iff_ne,decide_eq_true_iff]
  exact not_congr (E4 hr hs).2
 | _=>exact hg.elim
theorem VI {k:IntKind} {r s:Nat} (hr:r<Mk k) (hs:s<Mk k) (h:r+s<Hk k):DD .add (.int k (BF k r)) (.int k (BF k s)) (.int k (r+s)):=by
 have e0:La .add k r k s (fun v=>R.rv v AT ⟨.d0,.d0,.d0,.d0⟩)=R.rv (.int k (r+s)) AT ⟨.d0,.d0,.d0,.d0⟩:=by
  show br (Bj k k) (Ai (Nat.mod (Nat.add r s) (Mk k)) fun r=>R.rv (.int k r) AT ⟨.d0,.d0,.d0,.d0⟩) (.fail "")=_
  rw [Bg.2 rfl,AQ,Ah]
  show R.rv (.int k ((r+s) % Mk k)) _ _=_
  rw [Nat.mod_eq_of_lt (Nat.lt_of_lt_of_le h (GF k))]
 obtain ⟨v,e,H⟩:=Fk .add k r k s (fun v=>R.rv v AT ⟨.d0,.d0,.d0,.d0⟩) hr hs (by rw [e0]; trivial)
 rw [e0] at e
 cases e
 exact H
theorem add_mod {k:IntKind} {r s:Nat} (hr:r<Mk k) (hs:s<Mk k):DD .add (.int k (BF k r)) (.int k (BF k s)) (.int k ((r+s) % Mk k)):=by
 have e0:La .add k r k s (fun v=>R.rv v AT ⟨.d0,.d0,.d0,.d0⟩)=R.rv (.int k ((r+s) % Mk k)) AT ⟨.d0,.d0,.d0,.d0⟩:=by
  show br (Bj k k) (Ai (Nat.mod (Nat.add r s) (Mk k)) fun r=>R.rv (.int k r) AT ⟨.d0,.d0,.d0,.d0⟩) (.fail "")=_
  rw [Bg.2 rfl,AQ,Ah]
  rfl
 obtain ⟨v,e,H⟩:=Fk .add k r k s (fun v=>R.rv v AT ⟨.d0,.d0,.d0,.d0⟩) hr hs (by rw [e0]; trivial)
 rw [e0] at e
 cases e
 exact H
theorem Vu {k:IntKind} {r s:Nat} (hr:r<Mk k) (hs:s<Mk k) (h:s≤r):DD .sub (.int k (BF k r)) (.int k (BF k s)) (.int k (r - s)):=by
 have e0:La .sub k r k s (fun v=>R.rv v AT ⟨.d0,.d0,.d0,.d0⟩)=R.rv (.int k (r - s)) AT ⟨.d0,.d0,.d0,.d0⟩:=by
  show br (Bj k k) (Ai (Nat.mod (Nat.add r (Nat.sub (Mk k) s)) (Mk k)) fun r=>R.rv (.int k r) AT ⟨.d0,.d0,.d0,.d0⟩) (.fail "")=_
  rw [Bg.2 rfl,AQ,Ah]
  show R.rv (.int k ((r+(Mk k - s)) % Mk k)) _ _=_
  rw [show r+(Mk k - s)=r - s+Mk k by omega,Nat.add_mod_right,Nat.mod_eq_of_lt (by omega)]
 obtain ⟨v,e,H⟩:=Fk .sub k r k s (fun v=>R.rv v AT ⟨.d0,.d0,.d0,.d0⟩) hr hs (by rw [e0]; trivial)
 rw [e0] at e
 cases e
 exact H
theorem DD.iv {op:BinOp} {x y:Value} {k:IntKind} {r lo hi:Nat} (h:DD op x y (.int k r)) (h1:lo≤r) (h2:r≤hi):DD op x y (.oth (.iv k lo hi)):=by
 obtain ⟨z,hz,hr⟩:=h
 refine ⟨z,hz,fun ρ φ=>?_⟩
 have:=hr ρ φ
 simp only [AG] at this ⊢
 exact ⟨r,h1,h2,this.1,this.2⟩
theorem Ss {r b:Nat} (h1:r<Hk .i64) (h2:b<Hk .i64) (h3:1≤b):DD .rem (.int .i64 (BF .i64 r)) (.int .i64 (BF .i64 b)) (.int .i64 (r % b)):=by
 have hd:r % b<Hk .i64:=Nat.lt_of_le_of_lt (Nat.mod_le r b) h1
 have hp:Ow .i64 r .i64 b (br (Nat.ble 1 b) (Ai (Nat.mod r b) fun r=>R.rv (.int .i64 r) AT ⟨.d0,.d0,.d0,.d0⟩) (.fail ""))=R.rv (.int .i64 (r % b)) AT ⟨.d0,.d0,.d0,.d0⟩:=by
  unfold Ow
  rw [Bg.2 rfl,AQ,Ap.2 (show r+1≤Hk .i64 from h1),AQ,Ap.2 (show b+1≤Hk .i64 from h2),AQ,Ap.2 h3,AQ,Ah]
  rfl
 have hp:La .rem .i64 r .i64 b (fun v=>R.rv v AT ⟨.d0,.d0,.d0,.d0⟩)=R.rv (.int .i64 (r % b)) AT ⟨.d0,.d0,.d0,.d0⟩:=hp
 obtain ⟨v,e,H⟩:=Fk .rem .i64 r .i64 b (fun v=>R.rv v AT ⟨.d0,.d0,.d0,.d0⟩) (Nat.lt_of_lt_of_le h1 (GF .i64)) (Nat.lt_of_lt_of_le h2 (GF .i64)) (by rw [hp]; trivial)
 rw [hp] at e
 cases e
 exact H
theorem Uv {p:Int} {b:Nat} (p1 : -9223372036854775808≤p) (p2:p<9223372036854775808) (h1:1≤b) (h2:b<Hk .i64):DD .rem (.int .i64 p) (.int .i64 (BF .i64 b)) (.oth (.iv .i64 0 18446744073709551615)):=by
 have hz:(p.tmod b).natAbs<9223372036854775808:=by
  rw [Int.natAbs_tmod]
  have h2:b<9223372036854775808:=h2
  have:=Nat.mod_lt p.natAbs (show (b:Int).natAbs > 0 by omega)
  omega
 refine ⟨.int .i64 (p.tmod b),fun P t w=>?_,fun ρ φ=>?_⟩
 ·rw [AA h2,binOp_rem]
  simp only [Op.intDiv]
  rw [if_neg (by omega)]
  simp only [Sem.run_pure]
 ·simp only [AG]
  generalize p.tmod b=z at hz
  by_cases h0:0≤z
  ·refine ⟨z.toNat,Nat.zero_le _,by omega,by simp only [Mk]; omega,?_⟩
   rw [AA (by simp only [Hk]; omega)]; congr 1; omega
  ·refine ⟨(z+18446744073709551616).toNat,Nat.zero_le _,by omega,by simp only [Mk]; omega,?_⟩
   rw [CL (by simp only [Hk]; omega)]; congr 1; simp only [Mk]; omega
theorem PF {x y:V} {κ:V->R} (hg:(QC x y κ).good):∃ v,QC x y κ=κ v ∧ ∀ (ρ:Env) (φ:B6) X Y,AG ρ φ x X->AG ρ φ y Y →
  ∃ k p q,X = .int k p∧Y = .int k q∧DD .rem X Y v:=by
 unfold QC at hg ⊢
 obtain ⟨k,a,b,e1,H1⟩:=C9 hg
 rw [e1] at hg ⊢
 obtain ⟨j,d,rfl,e2⟩:=Cd hg
 rw [e2] at hg ⊢
 obtain ⟨hk,e3⟩:=Ao hg
 rw [e3] at hg ⊢
 obtain rfl:=Bg.1 hk
 obtain ⟨hj,e4⟩:=Ao hg
 rw [e4] at hg ⊢
 obtain rfl:=Bg.1 hj
 obtain ⟨h1,e5⟩:=Ao hg
 rw [e5] at hg ⊢
 obtain ⟨h2,e6⟩:=Ao hg
 rw [e6] at hg ⊢
 have h1:=Ap.1 h1
 have h2:d+1≤9223372036854775808:=Ap.1 h2
 have hd:d<Hk .i64:=by simp only [Hk]; omega
 have hY:∀ (ρ:Env) (φ:B6) Y,AG ρ φ (.int .i64 d) Y->Y = .int .i64 (BF .i64 d):=fun ρ φ Y h=>by
  have h:d<Mk .i64∧Y = .int .i64 (BF .i64 d):=by simpa only [AG] using h
  exact h.2
 cases hb:Nat.ble (Nat.succ b) 9223372036854775808 with
 | true =>
  have hb:b+1≤9223372036854775808:=Ap.1 hb
  refine ⟨.oth (.iv .i64 0 (d - 1)),by rw [AQ,Ah]; rfl,fun ρ φ X Y hX hY'=>?_⟩
  obtain ⟨r,r1,r2,r3,rfl⟩:=H1 ρ φ X hX
  obtain rfl:=hY ρ φ Y hY'
  have hr:r<Hk .i64:=by simp only [Hk]; omega
  exact ⟨.i64,_,_,rfl,rfl,(Ss hr hd h1).iv (Nat.zero_le _) (by have:=Nat.mod_lt r (show d > 0 by omega); omega)⟩
 | false =>
  refine ⟨_,rfl,fun ρ φ X Y hX hY'=>?_⟩
  obtain ⟨r,r1,r2,r3,rfl⟩:=H1 ρ φ X hX
  obtain rfl:=hY ρ φ Y hY'
  have hw : -9223372036854775808≤BF .i64 r∧BF .i64 r<9223372036854775808:=by
   have r3:r<18446744073709551616:=r3
   by_cases h:r<Hk .i64
   ·rw [AA h]; have h:r<9223372036854775808:=h; omega
   ·rw [CL (by omega)]; have h:¬ r<9223372036854775808:=h; simp only [Mk]; omega
  exact ⟨.i64,_,_,rfl,rfl,Uv hw.1 hw.2 h1 hd⟩
theorem M5 {op:BinOp} {x y:V} {κ:V->R} (hg:(FG op x y κ).good):∃ v,FG op x y κ=κ v ∧ ∀ (ρ:Env) (φ:B6) X Y,AG ρ φ x X->AG ρ φ y Y →
  ∃ k p q,X = .int k p∧Y = .int k q∧DD op X Y v:=by
 by_cases h1:op = .add
 ·subst h1
  have hg:(QR x y κ).good:=hg
  show ∃ v,QR x y κ=κ v∧_
  unfold QR at hg ⊢
  obtain ⟨k,a,b,e1,H1⟩:=C9 hg
  rw [e1] at hg ⊢
  obtain ⟨j,c,d,e2,H2⟩:=C9 hg
  rw [e2] at hg ⊢
  obtain ⟨hk,e3⟩:=Ao hg
  rw [e3] at hg ⊢
  obtain rfl:=Bg.1 hk
  rw [Ah,Ah] at hg ⊢
  cases hh:Nat.ble (Nat.succ (Nat.add b d)) (Hk k) with
  | true =>
   have hh:b+d+1≤Hk k:=Ap.1 hh
   refine ⟨_,rfl,fun ρ φ X Y hX hY=>?_⟩
   obtain ⟨r,r1,r2,r3,rfl⟩:=H1 ρ φ X hX
   obtain ⟨s,s1,s2,s3,rfl⟩:=H2 ρ φ Y hY
   exact ⟨k,_,_,rfl,rfl,(VI r3 s3 (by omega)).iv (show a+c≤r+s by omega) (show r+s≤b+d by omega)⟩
  | false =>
   refine ⟨.oth (.iv k 0 (Mk k - 1)),by rw [AO,Ah]; rfl,fun ρ φ X Y hX hY=>?_⟩
   obtain ⟨r,r1,r2,r3,rfl⟩:=H1 ρ φ X hX
   obtain ⟨s,s1,s2,s3,rfl⟩:=H2 ρ φ Y hY
   exact ⟨k,_,_,rfl,rfl,(add_mod r3 s3).iv (Nat.zero_le _) (by have:=Nat.mod_lt (r+s) (Ea k); omega)⟩
 ·by_cases h2:op = .sub
  ·subst h2
   have hg:(Qs x y κ).good:=hg
   show ∃ v,Qs x y κ=κ v∧_
   unfold Qs at hg ⊢
   obtain ⟨k,a,b,e1,H1⟩:=C9 hg
   rw [e1] at hg ⊢
   obtain ⟨j,c,d,e2,H2⟩:=C9 hg
   rw [e2] at hg ⊢
   obtain ⟨hk,e3⟩:=Ao hg
   rw [e3] at hg ⊢
   obtain rfl:=Bg.1 hk
   obtain ⟨q1,e4⟩:=Ao hg
   rw [e4] at hg ⊢
   obtain ⟨q2,e5⟩:=Ao hg
   rw [e5,Ah,Ah]
   have q1:d≤a:=Ap.1 q1
   refine ⟨_,rfl,fun ρ φ X Y hX hY=>?_⟩
   obtain ⟨r,r1,r2,r3,rfl⟩:=H1 ρ φ X hX
   obtain ⟨s,s1,s2,s3,rfl⟩:=H2 ρ φ Y hY
   exact ⟨k,_,_,rfl,rfl,(Vu r3 s3 (by omega)).iv (show a - d≤r - s by omega) (show r - s≤b - c by omega)⟩
  ·by_cases h3:op = .rem
   ·subst h3; exact PF hg
   have e:FG op x y κ=Ge op x y κ:=by cases op <;> first | rfl | exact absurd rfl h1 | exact absurd rfl h2 | exact absurd rfl h3
   rw [e] at hg ⊢
   exact Rv hg
theorem Ok {a b c d:Nat} {yes no:R} (hg:(W8 a b c d yes no).good):(W8 a b c d yes no=yes∧b<c)∨(W8 a b c d yes no=no∧d≤a):=by
 unfold W8 at hg ⊢
 cases h:Nat.ble (Nat.succ b) c with
 | true=>exact .inl ⟨rfl,Ap.1 h⟩
 | false =>
  rw [h] at hg
  obtain ⟨h2,e⟩:=Ao (show R.good (br (Nat.ble d a) no (.fail "")) from hg)
  exact .inr ⟨e,Ap.1 h2⟩
theorem Sw {x y:V} {κ:V->R} (hg:(Wi x y κ).good):∃ u,Wi x y κ=κ u ∧ ∀ (ρ:Env) (φ:B6) X Y,AG ρ φ x X->AG ρ φ y Y →
  ∃ k p q,X = .int k p∧Y = .int k q∧AG ρ φ u (.int k (if q > p then q else p)):=by
 unfold Wi at hg ⊢
 obtain ⟨k,a,b,e1,H1⟩:=C9 hg
 rw [e1] at hg ⊢
 obtain ⟨j,c,d,e2,H2⟩:=C9 hg
 rw [e2] at hg ⊢
 obtain ⟨hk,e3⟩:=Ao hg
 rw [e3] at hg ⊢
 obtain rfl:=Bg.1 hk
 obtain ⟨o1,e4⟩:=Ao hg
 rw [e4] at hg ⊢
 obtain ⟨o2,e5⟩:=Ao hg
 rw [e5] at hg ⊢
 rcases Ok hg with ⟨e,h⟩ | ⟨e,h⟩
 ·refine ⟨y,e,fun ρ φ X Y hX hY=>?_⟩
  obtain ⟨r,r1,r2,r3,rfl⟩:=H1 ρ φ X hX
  obtain ⟨s,s1,s2,s3,rfl⟩:=H2 ρ φ Y hY
  have k1:=Ce (M:=Mk k) o1 r1 r2
  have k2:=Ce (M:=Mk k) o2 s1 s2
  have:=(E4 r3 s3).1
  exact ⟨k,_,_,rfl,rfl,by rw [if_pos (by omega)]; exact hY⟩
 ·refine ⟨x,e,fun ρ φ X Y hX hY=>?_⟩
  obtain ⟨r,r1,r2,r3,rfl⟩:=H1 ρ φ X hX
  obtain ⟨s,s1,s2,s3,rfl⟩:=H2 ρ φ Y hY
  have k1:=Ce (M:=Mk k) o1 r1 r2
  have k2:=Ce (M:=Mk k) o2 s1 s2
  have:=(E4 r3 s3).1
  exact ⟨k,_,_,rfl,rfl,by rw [if_neg (by omega)]; exact hX⟩
theorem TK {x y:V} {κ:V->R} (hg:(W9 x y κ).good):∃ u,W9 x y κ=κ u ∧ ∀ (ρ:Env) (φ:B6) X Y,AG ρ φ x X->AG ρ φ y Y →
  ∃ k p q,X = .int k p∧Y = .int k q∧AG ρ φ u (.int k (if q<p then q else p)):=by
 unfold W9 at hg ⊢
 obtain ⟨k,a,b,e1,H1⟩:=C9 hg
 rw [e1] at hg ⊢
 obtain ⟨j,c,d,e2,H2⟩:=C9 hg
 rw [e2] at hg ⊢
 obtain ⟨hk,e3⟩:=Ao hg
 rw [e3] at hg ⊢
 obtain rfl:=Bg.1 hk
 obtain ⟨o1,e4⟩:=Ao hg
 rw [e4] at hg ⊢
 obtain ⟨o2,e5⟩:=Ao hg
 rw [e5] at hg ⊢
 rcases Ok hg with ⟨e,h⟩ | ⟨e,h⟩
 ·refine ⟨y,e,fun ρ φ X Y hX hY=>?_⟩
  obtain ⟨r,r1,r2,r3,rfl⟩:=H1 ρ φ X hX
  obtain ⟨s,s1,s2,s3,rfl⟩:=H2 ρ φ Y hY
  have k1:=Ce (M:=Mk k) o1 r1 r2
  have k2:=Ce (M:=Mk k) o2 s1 s2
  have:=(E4 s3 r3).1
  exact ⟨k,_,_,rfl,rfl,by rw [if_pos (by omega)]; exact hY⟩
 ·refine ⟨x,e,fun ρ φ X Y hX hY=>?_⟩
  obtain ⟨r,r1,r2,r3,rfl⟩:=H1 ρ φ X hX
  obtain ⟨s,s1,s2,s3,rfl⟩:=H2 ρ φ Y hY
  have k1:=Ce (M:=Mk k) o1 r1 r2
  have k2:=Ce (M:=Mk k) o2 s1 s2
  have:=(E4 s3 r3).1
  exact ⟨k,_,_,rfl,rfl,by rw [if_neg (by omega)]; exact hX⟩
theorem TJ {m j b:Nat} {κ:V->R} (hg:(V0 m j b κ).good) (hb1:1≤b) (hb2:b+1≤9223372036854775808):∃ v,V0 m j b κ=κ v ∧ ∀ (ρ:Env) (φ:B6) X Y,AG ρ φ (.oth (.rs m j)) X->AG ρ φ (.int .i64 b) Y →
  ∃ k p q,X = .int k p∧Y = .int k q∧DD .rem X Y v:=by
 unfold V0 at hg ⊢
 obtain ⟨hm,e1⟩:=Ao hg
 rw [e1] at hg ⊢
 rw [Ah] at hg ⊢
 obtain ⟨hd,e2⟩:=Ao hg
 rw [e2] at hg ⊢
 obtain ⟨h1,e3⟩:=Ao hg
 rw [e3,Ah]
 have hm:m=73786976294838206464+b:=Nat.eq_of_beq_eq_true hm
 have hd:j % 18446744073709551616=j / 18446744073709551616:=Nat.eq_of_beq_eq_true hd
 have h1:1≤j % 18446744073709551616:=Ap.1 h1
 refine ⟨_,rfl,fun ρ φ X Y hX hY=>?_⟩
 simp only [AG] at hX
 obtain ⟨z,rfl,z1,z2,z3,_,z5⟩:=hX
 have hY:(b<Mk .i64∧Y = .int .i64 (BF .i64 b)):=by simpa only [AG] using hY
 obtain ⟨_,rfl⟩:=hY
 have hz:=z5 (by omega)
 have e6:m % 18446744073709551616=b:=by omega
 have z3:z.natAbs % b=j % 18446744073709551616:=by
  rcases z3 with ⟨h,_⟩ | ⟨_,h,h'⟩
  ·omega
  ·rw [e6] at h h'; omega
 rw [show BF .i64 b=(b:Int) from AA (by simp only [Hk]; omega)]
 refine ⟨.i64,_,_,rfl,rfl,.int .i64 (z.tmod b),fun P t w=>by
  rw [binOp_rem]
  simp only [Op.intDiv]
  rw [if_neg (by omega)]
  simp only [Sem.run_pure],fun ρ φ=>?_⟩
 have h0:=Int.natAbs_tmod z b
 rw [Int.natAbs_natCast,z3] at h0
 have hjb:j % 18446744073709551616<b:=by rw [←z3]; exact Nat.mod_lt _ (by omega)
 have hneg:z.tmod b≤0:=by
  have h4:0≤(-z).tmod b:=Int.tmod_nonneg _ (by omega)
  rw [Int.neg_tmod] at h4
  omega
 generalize z.tmod b=y at h0 hneg
 simp only [AG]
 have hs:Nat.sub 18446744073709551616 (j % 18446744073709551616)=18446744073709551616 - j % 18446744073709551616:=rfl
 refine ⟨by show 18446744073709551616 - j % 18446744073709551616<Mk .i64; simp only [Mk]; omega,?_⟩
 show Value.int .i64 y = .int .i64 (BF .i64 (18446744073709551616 - j % 18446744073709551616))
 rw [CL (by simp only [Hk]; omega)]
 congr 1; simp only [Mk]; omega
theorem KX {op:BinOp} {x y:V} {κ:V->R} (hg:(Qj op x y κ (FG op x y κ)).good):∃ v,Qj op x y κ (FG op x y κ)=κ v ∧ ∀ (ρ:Env) (φ:B6) X Y,AG ρ φ x X->AG ρ φ y Y →
  ∃ k p q,X = .int k p∧Y = .int k q∧DD op X Y v:=by
 by_cases hop:op = .rem
 ·subst hop
  rcases LU x (fun m j=>FP y fun k b=>br (Bj k .i64) (br (Nat.ble 1 b) (br (Nat.ble (Nat.succ b) 9223372036854775808) (br (Nat.beq m (Nat.add 18446744073709551616 b)) (κ (.int .i64 j)) (br (Nat.beq m b) (br (Nat.beq j 0) (κ (.int .i64 0)) (κ (.oth (.iv .i64 1 18446744073709551615)))) (V0 m j b κ))) (.fail "")) (.fail "")) (.fail "")) (FG .rem x y κ) with ⟨m,j,rfl,e0⟩ | e0
  ·have e0:Qj .rem (.oth (.rs m j)) y κ (FG .rem (.oth (.rs m j)) y κ)=_:=e0
   rw [e0] at hg ⊢
   obtain ⟨k,b,rfl,e1⟩:=Cd hg
   rw [e1] at hg ⊢
   obtain ⟨hk,e2⟩:=Ao hg
   rw [e2] at hg ⊢
   obtain rfl:=Bg.1 hk
   obtain ⟨hb1,e3⟩:=Ao hg
   rw [e3] at hg ⊢
   obtain ⟨hb2,e4⟩:=Ao hg
   rw [e4] at hg ⊢
   cases hm:Nat.beq m (Nat.add 18446744073709551616 b) with
   | false =>
    rw [hm] at hg
    have hg:(br (Nat.beq m b) (br (Nat.beq j 0) (κ (.int .i64 0)) (κ (.oth (.iv .i64 1 18446744073709551615)))) (V0 m j b κ)).good:=hg
    cases hmb:Nat.beq m b with
    | false =>
     rw [hmb] at hg
     obtain ⟨v,e5,H⟩:=TJ (show R.good (V0 m j b κ) from hg) (Ap.1 hb1) (Ap.1 hb2)
     exact ⟨v,e5,H⟩
    | true =>
    have e5:br true (br (Nat.beq j 0) (κ (.int .i64 0)) (κ (.oth (.iv .i64 1 18446744073709551615)))) (V0 m j b κ)=br (Nat.beq j 0) (κ (.int .i64 0)) (κ (.oth (.iv .i64 1 18446744073709551615))):=rfl
    have hb1:=Ap.1 hb1
    have hb2:b+1≤9223372036854775808:=Ap.1 hb2
    have hmb:m=b:=Nat.eq_of_beq_eq_true hmb
    have key:∀ (ρ:Env) (φ:B6) X Y,AG ρ φ (.oth (.rs m j)) X->AG ρ φ (.int .i64 b) Y->∃ z:Int,X = .int .i64 z∧Y = .int .i64 (b:Int) ∧ -9223372036854775808≤z∧z<9223372036854775808∧z.natAbs % b=j:=fun ρ φ X Y hX hY=>by
     simp only [AG] at hX
     obtain ⟨z,rfl,z1,z2,z3,_⟩:=hX
     have hY:(b<Mk .i64∧Y = .int .i64 (BF .i64 b)):=by simpa only [AG] using hY
     obtain ⟨_,rfl⟩:=hY
     refine ⟨z,rfl,by rw [AA (by simp only [Hk]; omega)],z1,z2,?_⟩
     rcases z3 with ⟨_,z3⟩ | ⟨z3,_⟩
     ·rw [hmb,Nat.mod_eq_of_lt (show b<18446744073709551616 by omega)] at z3; exact z3
     ·omega
    cases hj:Nat.beq j 0 with
    | true =>
     obtain rfl:=Nat.eq_of_beq_eq_true hj
     refine ⟨_,e5,fun ρ φ X Y hX hY=>?_⟩
     obtain ⟨z,rfl,rfl,z1,z2,z3⟩:=key ρ φ X Y hX hY
     refine ⟨.i64,_,_,rfl,rfl,.int .i64 (z.tmod b),fun P t w=>by
      rw [binOp_rem]
      simp only [Op.intDiv]
      rw [if_neg (by omega)]
      simp only [Sem.run_pure],fun ρ φ=>?_⟩
     have h0:z.tmod b=0:=by
      have:=Int.natAbs_tmod z b
      rw [Int.natAbs_natCast,z3] at this
      omega
     rw [h0]
     simp only [AG]
     exact ⟨by simp only [Mk]; omega,rfl⟩
    | false =>
     rw [hj] at e5
     refine ⟨_,e5,fun ρ φ X Y hX hY=>?_⟩
     obtain ⟨z,rfl,rfl,z1,z2,z3⟩:=key ρ φ X Y hX hY
     refine ⟨.i64,_,_,rfl,rfl,.int .i64 (z.tmod b),fun P t w=>by
      rw [binOp_rem]
      simp only [Op.intDiv]
      rw [if_neg (by omega)]
      simp only [Sem.run_pure],fun ρ φ=>?_⟩
     have hj0:j≠0:=fun h=>by subst h; cases hj
     have h0:=Int.natAbs_tmod z b
     rw [Int.natAbs_natCast,z3] at h0
     have hjb:j<b:=by rw [←z3]; exact Nat.mod_lt _ (by omega)
     generalize z.tmod b=y at h0
     simp only [AG]
     by_cases hy:0≤y
     ·refine ⟨y.toNat,by omega,by omega,by simp only [Mk]; omega,?_⟩
      rw [AA (by simp only [Hk]; omega)]; congr 1; omega
     ·refine ⟨(y+18446744073709551616).toNat,by omega,by omega,by simp only [Mk]; omega,?_⟩
      rw [CL (by simp only [Hk]; omega)]; congr 1; simp only [Mk]; omega
   | true =>
   rw [hm] at hg
   refine ⟨_,rfl,fun ρ φ X Y hX hY=>?_⟩
   have hb1:=Ap.1 hb1
   have hb2:b+1≤9223372036854775808:=Ap.1 hb2
   have hm:m=18446744073709551616+b:=Nat.eq_of_beq_eq_true hm
   simp only [AG] at hX
   obtain ⟨z,rfl,z1,z2,z3,z4,_⟩:=hX
   have hY:(b<Mk .i64∧Y = .int .i64 (BF .i64 b)):=by simpa only [AG] using hY
   obtain ⟨_,rfl⟩:=hY
   have hz:=z4 (by omega) (by omega)
   have z3:z.natAbs % (m % 18446744073709551616)=j:=by
    rcases z3 with ⟨_,z3⟩ | ⟨z3,_⟩
    ·exact z3
    ·omega
   have e6:m % 18446744073709551616=b:=by omega
   rw [e6] at z3
   obtain ⟨r,rfl⟩:∃ r:Nat,z=r:=⟨z.toNat,by omega⟩
   have hr:r<Hk .i64:=by simp only [Hk]; omega
   have h:=Ss (b:=b) hr (by simp only [Hk]; omega) hb1
   rw [AA hr] at h
   have e7:r % b=j:=by rw [←z3,Int.natAbs_natCast]
   rw [e7] at h
   exact ⟨.i64,_,_,rfl,rfl,h⟩
  ·have e0:Qj .rem x y κ (FG .rem x y κ)=FG .rem x y κ:=e0
   rw [e0] at hg ⊢
   exact M5 hg
 ·have e0:Qj op x y κ (FG op x y κ)=FG op x y κ:=by cases op <;> first | rfl | exact absurd rfl hop
  rw [e0] at hg ⊢
  exact M5 hg
theorem M1 (v:V) (κ:IntKind->Nat->R) (e:R):(∃ k i,v = .oth (.sy k i)∧Wt v κ e=κ k i)∨Wt v κ e=e:=by
 cases v with
 | oth o =>
  rcases PY o κ e with ⟨k,i,rfl,h⟩ | h
  ·exact .inl ⟨k,i,rfl,h⟩
  ·exact .inr h
 | _=>exact .inr rfl
theorem I0 (x y:V) (a e:R):(∃ k i,x = .oth (.sy k i)∧y = .oth (.sy k i)∧KU x y a e=a)∨KU x y a e=e:=by
 unfold KU
 rcases M1 x (fun k i=>Wt y (fun j i'=>br (Bj k j) (br (Nat.beq i i') a e) e) e) e with ⟨k,i,rfl,h⟩ | h
 ·rw [h]
  rcases M1 y (fun j i'=>br (Bj k j) (br (Nat.beq i i') a e) e) e with ⟨j,i',rfl,h'⟩ | h'
  ·rw [h']
   cases hk:Bj k j with
   | false=>exact .inr rfl
   | true =>
    cases hi:Nat.beq i i' with
    | false=>exact .inr rfl
    | true =>
     obtain rfl:=Bg.1 hk
     obtain rfl:=Nat.eq_of_beq_eq_true hi
     exact .inl ⟨k,i,rfl,rfl,rfl⟩
  ·rw [h']; exact .inr rfl
 ·rw [h]; exact .inr rfl
theorem Tb {op:BinOp} {x y:V} {κ:V->R} (hg:(JA op x y κ).good):∃ v,JA op x y κ=κ v ∧ ∀ (ρ:Env) (φ:B6) X Y,AG ρ φ x X->AG ρ φ y Y →
  ∃ k p q,X = .int k p∧Y = .int k q∧DD op X Y v:=by
 unfold JA at hg ⊢
 by_cases h1:op = .eql
 ·subst h1
  rcases I0 x y (κ (.bool true)) (Qj .eql x y κ (FG .eql x y κ)) with ⟨k,i,rfl,rfl,e⟩ | e
  ·refine ⟨_,e,fun ρ φ X Y hX hY=>?_⟩
   simp only [AG] at hX hY
   obtain ⟨h1,r,hr,h2⟩:=hX
   obtain rfl:Y=X:=hY.1.trans h1.symm
   subst h2
   exact ⟨k,_,_,rfl,rfl,.bool true,fun P t w=>by rw [binOp_eql,Sem.run_pure,beq_self_eq_true],fun ρ φ=>BH _ ρ φ⟩
  ·have e:Y9 .eql x y κ (Qj .eql x y κ (FG .eql x y κ))=Qj .eql x y κ (FG .eql x y κ):=e
   rw [e] at hg ⊢
   exact KX hg
 by_cases h2:op = .neq
 ·subst h2
  rcases I0 x y (κ (.bool false)) (Qj .neq x y κ (FG .neq x y κ)) with ⟨k,i,rfl,rfl,e⟩ | e
  ·refine ⟨_,e,fun ρ φ X Y hX hY=>?_⟩
   simp only [AG] at hX hY
   obtain ⟨h1,r,hr,h2⟩:=hX
   obtain rfl:Y=X:=hY.1.trans h1.symm
   subst h2
   exact ⟨k,_,_,rfl,rfl,.bool false,fun P t w=>by rw [binOp_neq,Sem.run_pure,bne_self_eq_false],fun ρ φ=>BH _ ρ φ⟩
  ·have e:Y9 .neq x y κ (Qj .neq x y κ (FG .neq x y κ))=Qj .neq x y κ (FG .neq x y κ):=e
   rw [e] at hg ⊢
   exact KX hg
 have e:Y9 op x y κ (Qj op x y κ (FG op x y κ))=Qj op x y κ (FG op x y κ):=by cases op <;> first | rfl | exact absurd rfl h1 | exact absurd rfl h2
 rw [e] at hg ⊢
 exact KX hg
theorem CD {op:BinOp} {ty yt:TypeId} {x y:Operand} {x' y':Opd} (ho:o.op = .binOp op ty x y yt) (hx:AY N x=some x') (hy:AY N y=some y') :
  Bo P ρ B N o (KN op x' y' cf t h n) t h n:=by
 intro κ hg
 have e:KN op x' y' cf t h n κ=MU op (ev x' t) (ev y' t) fun r=>κ r h n:=by simp only [KN,AS]
 rw [e] at hg
 have key:∀ φ a,TR ρ N φ t a->∃ X Y,a.eval x=X∧a.eval y=Y∧AG ρ φ (ev x' t) X∧AG ρ φ (ev y' t) Y:=fun φ a ht=>⟨_,_,rfl,rfl,Am hx ht,Am hy ht⟩
 rcases RX hg with ⟨k,a,j,b,hxv,hyv,e'⟩ | ⟨n',c,m,d,hxv,hyv,e'⟩ | e' | ⟨l0,l1,n',c,m,d,hxv,hyv,e'⟩
 ·by_cases hab:a<Mk k∧b<Mk j
  ·rw [e'] at hg
   obtain ⟨v,e2,r,hr,hv⟩:=Fk op k a j b _ hab.1 hab.2 hg
   refine ⟨v,e.trans (e'.trans e2),fun φ ac w ht hg=>⟨r,?_,hv ρ φ⟩⟩
   obtain ⟨X,Y,hX,hY,rX,rY⟩:=key φ ac ht
   rw [hxv] at rX; rw [hyv] at rY
   obtain ⟨_,rfl⟩:=BQ rX
   obtain ⟨_,rfl⟩:=BQ rY
   refine HP ho ?_ ?_
   ·rw [hX,hY,eqGuard_at_int]
   ·rw [hX,hY]; exact hr P ty w
  ·-- no world has such a residue
   rw [e'] at hg
   have hv:∃ v,La op k a j b (fun r=>κ r h n)=κ v h n:=by
    have gk:∀ (f:V->R) (c:Nat->V) (m:Nat),Ai m (fun r=>f (c r))=f (c m):=fun f c m=>Ah _ _
    cases op <;> (simp only [La,Ur,Np,UI,Re,RP,SB,WJ,TC,NV,SU,R9,Yj,Y4,Y6,Y3,Yk,Y7,Ow,Ah,C5] at hg ⊢)
    all_goals
     repeat' first
      | exact ⟨_,rfl⟩
      | (obtain ⟨_,ee⟩:=Ao hg; rw [ee] at hg ⊢)
      | exact Vc (f:=fun v=>κ v h n)
   obtain ⟨v,hv⟩:=hv
   refine ⟨v,e.trans (e'.trans hv),fun φ ac w ht hg=>?_⟩
   obtain ⟨X,Y,hX,hY,rX,rY⟩:=key φ ac ht
   rw [hxv] at rX; rw [hyv] at rY
   exact absurd ⟨(BQ rX).1,(BQ rY).1⟩ hab
 ·by_cases hw:∃ s u:ByteArray,n'=s.size∧c=B7 s.data.toList∧m=u.size∧d=B7 u.data.toList
  ·obtain ⟨s,u,rfl,rfl,rfl,rfl⟩:=hw
   rw [e'] at hg
   obtain ⟨v,e2,r,hr,hv⟩:=RO op s u _ hg
   refine ⟨v,e.trans (e'.trans e2),fun φ ac w ht hg=>⟨r,?_,hv ρ φ⟩⟩
   obtain ⟨X,Y,hX,hY,rX,rY⟩:=key φ ac ht
   rw [hxv] at rX; rw [hyv] at rY
   obtain ⟨s',rfl,h1,h2⟩:=Cg rX
   obtain ⟨u',rfl,h3,h4⟩:=Cg rY
   have es:s'=s:=by
    have:=Km (a:=s'.data.toList) (b:=s.data.toList) (by rw [BI,BI,h1]) h2
    cases s'; cases s; simp at this; rw [this]
   have eu:u'=u:=by
    have:=Km (a:=u'.data.toList) (b:=u.data.toList) (by rw [BI,BI,h3]) h4
    cases u'; cases u; simp at this; rw [this]
   subst es eu
   refine HP ho ?_ ?_
   ·rw [hX,hY,eqGuard_at_string]
   ·rw [hX,hY]; exact hr P ty w
  ·rw [e'] at hg
   have hv:∃ v,Jw op n' c m d (fun r=>κ r h n)=κ v h n:=by
    cases op <;> first
     | exact hg.elim
     | (simp only [Jw,VT,Vk,Zy,Z3,ZF,Ah,C5] at hg ⊢)
    ·obtain ⟨_,ee⟩:=Ao hg; rw [ee]; exact ⟨_,rfl⟩
    ·exact ⟨_,rfl⟩
    ·cases Jq n' c m d <;> exact ⟨_,rfl⟩
    ·exact ⟨_,rfl⟩
    ·cases Pc n' c m d <;> exact ⟨_,rfl⟩
   obtain ⟨v,hv⟩:=hv
   refine ⟨v,e.trans (e'.trans hv),fun φ ac w ht hg=>?_⟩
   obtain ⟨X,Y,hX,hY,rX,rY⟩:=key φ ac ht
   rw [hxv] at rX; rw [hyv] at rY
   obtain ⟨s',rfl,h1,h2⟩:=Cg rX
   obtain ⟨u',rfl,h3,h4⟩:=Cg rY
   exact absurd ⟨s',u',h1.symm,h2.symm,h3.symm,h4.symm⟩ hw
 ·rw [e'] at hg
  obtain ⟨v,e2,H⟩:=Tb hg
  refine ⟨v,e.trans (e'.trans e2),fun φ ac w ht hg=>?_⟩
  obtain ⟨X,Y,hX,hY,rX,rY⟩:=key φ ac ht
  obtain ⟨k,p,q,rfl,rfl,r,hr,hv⟩:=H ρ φ X Y rX rY
  refine ⟨r,HP ho ?_ ?_,hv ρ φ⟩
  ·rw [hX,hY,eqGuard_at_int]
  ·rw [hX,hY]; exact hr P ty w
 ·rw [e'] at hg
  unfold Qe at hg e'
  obtain ⟨hne,e2⟩:=Ao hg
  rw [e2] at hg
  have ne:∀ φ ac,TR ρ N φ t ac->∃ s u:ByteArray,ac.eval x = .string s∧ac.eval y = .string u∧(s.toList == u.toList)=false:=fun φ ac ht=>by
   obtain ⟨X,Y,hX,hY,rX,rY⟩:=key φ ac ht
   rw [hxv] at rX; rw [hyv] at rY
   simp only [AG] at rX
   obtain ⟨s,rfl,k1,k2,k3⟩:=rX
   obtain ⟨u,rfl,k4,k5⟩:=Cg rY
   refine ⟨s,u,hX,hY,?_⟩
   rw [Bool.eq_false_iff]
   intro hc
   have hc:=eq_of_beq hc
   have hsu:s=u:=by
    rw [ByteArray.toList_eq,ByteArray.toList_eq] at hc
    cases s; cases u; simp at hc; rw [hc]
   subst hsu
   rw [k4] at k1 k2 k3
   rw [k5] at k3
   rw [Ap.2 k1,Ap.2 k2] at hne
   simp only [AQ] at hne
   cases h1:Nat.beq m n' with
   | false=>rw [h1] at hne; cases hne
   | true =>
    rw [h1,AQ] at hne
    exact k3 ⟨Nat.eq_of_beq_eq_true h1,Nat.eq_of_beq_eq_true hne⟩
  cases op with
  | eql =>
   refine ⟨.bool false,e.trans (e'.trans e2),fun φ ac w ht hg=>⟨.bool false,?_,BH _ ρ φ⟩⟩
   obtain ⟨s,u,hX,hY,hn⟩:=ne φ ac ht
   refine HP ho (by rw [hX,hY,eqGuard_at_string]) ?_
   rw [hX,hY,show (Go.binOp .eql ty (.string s) (.string u)).run P w = .ok (.bool (s.toList == u.toList)) w from rfl,hn]
  | neq =>
   refine ⟨.bool true,e.trans (e'.trans e2),fun φ ac w ht hg=>⟨.bool true,?_,BH _ ρ φ⟩⟩
   obtain ⟨s,u,hX,hY,hn⟩:=ne φ ac ht
   refine HP ho (by rw [hX,hY,eqGuard_at_string]) ?_
   rw [hX,hY,show (Go.binOp .neq ty (.string s) (.string u)).run P w = .ok (.bool !(s.toList == u.toList)) w from rfl,hn]; rfl
  | _=>exact hg.elim
end
end Go.Ev

namespace Go.Ev
set_option linter.unusedVariables false
section
variable {P:Program} {ρ:Env} {B N:Nat} {o:Oper} {cf:CF} {t:Regs} {h:Heap} {n:K4}
theorem Ir {ty:TypeId} {x y:Operand} {X Y:Value} {op:BinOp} (hg:P.eqGuardType P.depth ty=false) (hX:X ≠ .nilIface) (w:World):(eqGuard op ty x y X Y).run P w = .ok () w:=by
 unfold eqGuard
 cases op <;> simp <;> (split <;> first | (exact absurd rfl hX) | simp [hg] | simp)
theorem L6 {ty:TypeId} {X Y:Value} {w:World} {r:Bool} (hr:(Op.equal ty X Y).run P w = .ok r w) (hX:(∃ b,X = .bool b)∨(∃ a,X = .agg a)∨(∃ a,X = .pointer a)∨(∃ a b c,X = .slice a b c)∨(∃ a,X = .map a)∨(∃ a b c,X = .func a b c)∨X = .nilFunc) :
  (Go.binOp .eql ty X Y).run P w = .ok (.bool r) w∧(Go.binOp .neq ty X Y).run P w = .ok (.bool !r) w:=by
 rcases hX with ⟨b,rfl⟩ | ⟨a,rfl⟩ | ⟨a,rfl⟩ | ⟨a,b,c,rfl⟩ | ⟨a,rfl⟩ | ⟨a,b,c,rfl⟩ | rfl <;> (constructor <;> (unfold Go.binOp; simp [hr]))
theorem RJ {pl:Plan} {ty:TypeId} (hp:JO P ty=some pl) {x y:V} {κ:Bool->R} (hg:(KZ pl x y κ).good) {φ:B6} {X:Value} (hX:AG ρ φ x X) :
  (∃ b,X = .bool b)∨(∃ a,X = .agg a)∨(∃ a,X = .pointer a)∨(∃ a b c,X = .slice a b c)∨(∃ a,X = .map a)∨(∃ a b c,X = .func a b c)∨X = .nilFunc:=by
 have ref:∀ u,u ≠ .iface->(Jo u x y κ).good->(∃ b,X = .bool b)∨(∃ a,X = .agg a)∨(∃ a,X = .pointer a)∨(∃ a b c,X = .slice a b c)∨(∃ a,X = .map a)∨(∃ a b c,X = .func a b c)∨X = .nilFunc:=fun u hu hg=>by
  rcases FU (ρ:=ρ) (φ:=φ) (show R.good (G4 u x _ _) from hg) with ⟨rfl,_⟩ | ⟨_,hx⟩
  ·rw [BW hX]
   cases u <;> simp [C7] at hu ⊢
  ·have:=hx X hX
   cases u with
   | ptr=>obtain ⟨a,rfl⟩:=this; exact .inr (.inr (.inl ⟨_,rfl⟩))
   | sl=>obtain ⟨a,b,c,rfl⟩:=this; exact .inr (.inr (.inr (.inl ⟨_,_,_,rfl⟩)))
   | map=>obtain ⟨a,rfl⟩:=this; exact .inr (.inr (.inr (.inr (.inl ⟨_,rfl⟩))))
   | fn=>obtain ⟨a,b,c,rfl⟩:=this; exact .inr (.inr (.inr (.inr (.inr (.inl ⟨_,_,_,rfl⟩)))))
   | iface=>exact absurd rfl hu
 unfold JO at hp
 split at hp
 ·cases hp
  obtain ⟨b,rfl,_⟩:=EM (show R.good (P3 x _) from hg)
  exact .inl ⟨b,Du hX⟩
 ·split at hp
  ·cases hp
  ·cases ho:GI P _ with
   | none=>rw [ho] at hp; cases hp
   | some offs =>
    rw [ho] at hp; cases hp
    obtain ⟨a,rfl,_⟩:=Cy (show R.good (asAgg x _) from hg)
    obtain ⟨xs,rfl,_⟩:=E3 hX
    exact .inr (.inl ⟨_,rfl⟩)
 ·split at hp
  ·cases hp; exact ref .ptr (by simp) hg
  ·cases hp
 ·cases hp; exact ref .sl (by simp) hg
 ·cases hp; exact ref .map (by simp) hg
 ·cases hp; exact ref .fn (by simp) hg
 ·cases hp
theorem HY {neg:Bool} {pl:Plan} {ty yt:TypeId} {x y:Operand} {x' y':Opd} (ho:o.op = .binOp (if neg then .neq else .eql) ty x y yt) (hx:AY N x=some x') (hy:AY N y=some y')
  (hp:JO P ty=some pl) (hgd:P.eqGuardType P.depth ty=false):Bo P ρ B N o (Ri neg pl x' y' cf t h n) t h n:=by
 intro κ hg
 have e:Ri neg pl x' y' cf t h n κ=KZ pl (ev x' t) (ev y' t) fun r=>br neg (br r (κ (.bool false) h n) (κ (.bool true) h n)) (κ (.bool r) h n):=by simp only [Ri,AS]
 rw [e] at hg
 obtain ⟨r,g1,_⟩:=J4 (ρ:=ρ) (φ:=fun _=>none) hp hg
 refine ⟨.bool (if neg then !r else r),e.trans ((g1 _).trans (by cases neg <;> cases r <;> rfl)),fun φ a w ht hG=>⟨.bool (if neg then !r else r),?_,BH _ ρ φ⟩⟩
 obtain ⟨r',g2,g3⟩:=J4 (ρ:=ρ) (φ:=φ) hp hg
 have hrr:r'=r:=by
  have e1:=g1 (fun q=>R.rv (.bool q) AT ⟨.d0,.d0,.d0,.d0⟩)
  rw [g2] at e1
  simpa using e1
 subst hrr
 have hX:=Am hx ht
 have hY:=Am hy ht
 have hsh:=RJ hp hg hX
 have hrun:=L6 (g3 _ _ w hX hY) hsh
 have hne:a.eval x ≠ .nilIface:=by
  rcases hsh with ⟨b,e⟩ | ⟨b,e⟩ | ⟨b,e⟩ | ⟨b,c,d,e⟩ | ⟨b,e⟩ | ⟨b,c,d,e⟩ | e <;> rw [e] <;> simp
 cases neg
 ·simp only [Bool.false_eq_true,if_false] at ho ⊢
  simp only [execOp,ho,Sem.run_bind,Ir hgd hne,Result.andThen_ok,hrun.1,Sem.run_pure]
 ·simp only [if_true] at ho ⊢
  simp only [execOp,ho,Sem.run_bind,Ir hgd hne,Result.andThen_ok,hrun.2,Sem.run_pure]
theorem M4 {ty:TypeId} {x:Operand} {x':Opd} (ho:o.op = .unOp .not ty x) (hx:AY N x=some x'):Bo P ρ B N o (MH x' cf t h n) t h n:=by
 intro κ hg
 have e:MH x' cf t h n κ=P3 (ev x' t) fun q=>br q (κ (.bool false) h n) (κ (.bool true) h n):=by simp only [MH,AS]
 rw [e] at hg
 obtain ⟨b,hb,e'⟩:=EM hg
 refine ⟨.bool !b,e.trans (e'.trans (by cases b <;> rfl)),fun φ a w ht hg=>⟨.bool !b,?_,BH _ ρ φ⟩⟩
 have h1:=Am hx ht
 rw [hb] at h1
 simp [execOp,ho,Du h1,Op.unary]
theorem LM {ty:TypeId} {x:Operand} {x':Opd} (ho:o.op = .unOp .neg ty x) (hx:AY N x=some x'):Bo P ρ B N o (Mi x' cf t h n) t h n:=by
 intro κ hg
 have e:Mi x' cf t h n κ=FP (ev x' t) fun k r=>Np k 0 k r fun v=>κ v h n:=by simp only [Mi,AS]
 rw [e] at hg
 obtain ⟨k,r,hb,e'⟩:=Cd hg
 have hk:Bj k k=true:=Bg.2 rfl
 have e2:(Np k 0 k r fun v=>κ v h n)=κ (.int k ((0+(Mk k - r)) % Mk k)) h n:=by
  unfold Np; rw [hk,AQ,Ah]; rfl
 refine ⟨.int k ((0+(Mk k - r)) % Mk k),e.trans (e'.trans e2),fun φ a w ht hg=>⟨.int k (BF k ((0+(Mk k - r)) % Mk k)),?_,Ef k _ (Nat.mod_lt _ (Ea k)) ρ φ⟩⟩
 have h1:=Am hx ht
 rw [hb] at h1
 obtain ⟨hr,h1⟩:=BQ h1
 have h0:(0:Int)=BF k 0:=by rw [AA (by cases k <;> simp [Hk])]; rfl
 simp only [execOp,ho,h1,Op.unary,Op.intArith,Sem.run_bind,Sem.run_pure,Result.andThen_ok]
 rw [h0,NY k 0 r hr]
theorem Md {ty:TypeId} {x:Operand} {x':Opd} (ho:o.op = .unOp .xor ty x) (hx:AY N x=some x'):Bo P ρ B N o (Mm x' cf t h n) t h n:=by
 intro κ hg
 have e:Mm x' cf t h n κ=FP (ev x' t) fun k r=>κ (.int k (Nat.xor (Nat.sub (Mk k) 1) r)) h n:=by simp only [Mm,AS,Ah]
 rw [e] at hg
 obtain ⟨k,r,hb,e'⟩:=Cd hg
 by_cases hr:r<Mk k
 ·have hl:Nat.xor (Mk k - 1) r<Mk k:=Ty k _ _ (by have:=Ea k; omega) hr
  refine ⟨_,e.trans e',fun φ a w ht hg=>⟨.int k (BF k (Nat.xor (Mk k - 1) r)),?_,Ef k _ hl ρ φ⟩⟩
  have h1:=Am hx ht
  rw [hb] at h1
  obtain ⟨_,h1⟩:=BQ h1
  have hm:(if k.signed then -1 else k.max:Int)=BF k (Mk k - 1):=by
   cases k <;> simp [IntKind.signed,IntKind.max,IntKind.bits,BF,Mk,Hk]
  simp only [execOp,ho,h1,Op.unary,Op.intBits,hm,BitVec.toNat_xor,bv _ _ hr,bv k (Mk k - 1) (by have:=Ea k; omega),Sem.run_bind,Sem.run_pure,Result.andThen_ok]
  rw [EO k ((Mk k - 1) ^^^ r) hl]; rfl
 ·refine ⟨_,e.trans e',fun φ a w ht hg=>?_⟩
  have h1:=Am hx ht
  rw [hb] at h1
  exact absurd (BQ h1).1 hr
theorem V9 (j k:IntKind) (r:Nat) (hr:r<Mk j) :
  k.wrap (BF j r)=BF k (if r<Hk j then r % Mk k else if Mk k≤Mk j then r % Mk k else Mk k - (Mk j - r)):=by
 apply G0
 by_cases h1:r<Hk j
 ·rw [AA h1,if_pos h1,←Int.natCast_emod]
 ·rw [CL h1,if_neg h1]
  cases j <;> cases k <;> simp only [Mk,Hk] at * <;> (try simp) <;> omega
theorem Lv {src dst:TypeId} {j k:IntKind} {x:Operand} {x':Opd} (ho:o.op = .convert src dst x) (hx:AY N x=some x') (hs:P.underlying src=some (.int j)) (hd:P.underlying dst=some (.int k)) :
  Bo P ρ B N o (M7 k x' cf t h n) t h n:=by
 intro κ hg
 have e:M7 k x' cf t h n κ=FP (ev x' t) fun j r=>br (Nat.ble (Nat.succ r) (Hk j)) (κ (.int k (Nat.mod r (Mk k))) h n) (br (Nat.ble (Mk k) (Mk j)) (κ (.int k (Nat.mod r (Mk k))) h n) (κ (.int k (Nat.sub (Mk k) (Nat.sub (Mk j) r))) h n)):=by
  simp only [M7,AS,Ah]
 rw [e] at hg
 obtain ⟨i,r,hb,e'⟩:=Cd hg
 have e2:br (Nat.ble (Nat.succ r) (Hk i)) (κ (.int k (Nat.mod r (Mk k))) h n) (br (Nat.ble (Mk k) (Mk i)) (κ (.int k (Nat.mod r (Mk k))) h n) (κ (.int k (Nat.sub (Mk k) (Nat.sub (Mk i) r))) h n)) =
   κ (.int k (if r<Hk i then r % Mk k else if Mk k≤Mk i then r % Mk k else Mk k - (Mk i - r))) h n:=by
  by_cases h1:r<Hk i
  ·rw [Ap.2 h1,AQ,if_pos h1]; rfl
  ·rw [Bp (by omega),AO,if_neg h1]
   by_cases h2:Mk k≤Mk i
   ·rw [Ap.2 h2,AQ,if_pos h2]; rfl
   ·rw [Bp (by omega),AO,if_neg h2]; rfl
 refine ⟨_,e.trans (e'.trans e2),fun φ a w ht hg=>?_⟩
 have h1:=Am hx ht
 rw [hb] at h1
 obtain ⟨hr,h1⟩:=BQ h1
 refine ⟨_,?_,Ef k _ ?_ ρ φ⟩
 ·simp only [execOp,ho,h1,convert,Sem.run_bind,run_underlying hs,run_underlying hd,Result.andThen_ok,Conv.intToInt,Sem.run_pure]
  rw [V9 i k r hr]
 ·have:=Ea k
  split
  ·exact Nat.mod_lt _ this
  ·split
   ·exact Nat.mod_lt _ this
   ·omega
theorem LX {src dst:TypeId} {x:Operand} {x':Opd} (ho:o.op = .convert src dst x) (hx:AY N x=some x') (hs:P.underlying src=some .string) (hd:P.underlying dst=some .string) :
  Bo P ρ B N o (LN x' cf t h n) t h n:=by
 intro κ hg
 have e:LN x' cf t h n κ=Bl (ev x' t) fun _ _=>κ (ev x' t) h n:=by simp only [LN,AS]
 rw [e] at hg
 obtain ⟨m,c,hb,e'⟩:=BX hg
 refine ⟨_,e.trans e',fun φ a w ht hg=>⟨a.eval x,?_,Am hx ht⟩⟩
 have h1:=Am hx ht
 rw [hb] at h1
 obtain ⟨s,h1,_⟩:=Cg h1
 simp [execOp,ho,h1,convert,run_underlying hs,run_underlying hd]
theorem Kt {f:Nat} {caps:Array Operand} {l:List Opd} (ho:o.op = .makeFunc (.func f) #[] caps) (hl:BB N caps.toList=some l):Bo P ρ B N o (PV f l cf t h n) t h n :=
 JK (v:=.fn f (l.map (ev · t))) (fun κ=>by simp only [PV,EZ]) fun φ a w ht hg=>⟨.func (.func f) #[] (caps.map a.eval),by simp [execOp,ho,Instr.makeFunc],by
  simp only [AG]; exact ⟨_,rfl,by simpa using Ew hl ht⟩⟩
theorem Ma {i:Nat} {x:Operand} {x':Opd} (ho:o.op = .extract x i) (hx:AY N x=some x'):Bo P ρ B N o (Lk i x' cf t h n) t h n:=by
 intro κ hg
 have e:Lk i x' cf t h n κ=Kg (ev x' t) fun l=>Ee i l fun v=>κ v h n:=by simp only [Lk,AS]
 rw [e] at hg
 obtain ⟨l,hb,e'⟩:=KF hg
 rw [e'] at hg
 obtain ⟨v,hv,e2⟩:=Eu hg
 refine ⟨v,e.trans (e'.trans e2),fun φ a w ht hg=>?_⟩
 have h1:=Am hx ht
 rw [hb] at h1
 obtain ⟨cs,h1,hl⟩:=Qx h1
 obtain ⟨X,hX,hr⟩:=(Cc.1 hl).2 i v hv
 exact ⟨X,by simp [execOp,ho,h1,Instr.extract,show cs[i]? = some X by simpa using hX],hr⟩
theorem De {v:V} {κ:Nat->R} (h:(Iw v κ).good):∃ k r,v = .int k r∧r<Hk k∧Iw v κ=κ r:=by
 obtain ⟨k,r,rfl,e⟩:=Cd (show R.good (FP v _) from h)
 have h:R.good (br (Nat.ble (Nat.succ r) (Hk k)) (κ r) (.fail "")):=h
 obtain ⟨h1,e1⟩:=Ao h
 exact ⟨k,r,rfl,BT h1,e1⟩
theorem EP {φ:B6} {k:IntKind} {r:Nat} (hr:r<Hk k) {X:Value} (h:AG ρ φ (.int k r) X):X = .int k (r:Int):=by rw [(BQ h).2,AA hr]
theorem LJ {s:TypeId} {f:Nat} {fs:Array Field} {fd:Field} {x:Operand} {x':Opd} (ho:o.op = .fieldAddr s x f) (hx:AY N x=some x') (hs:P.underlying s=some (.struct fs)) (hf:fs[f]? = some fd) {sz:Nat} (hsz:Bw P fd.type=some (sz+1)) :
  Bo P ρ B N o (LV fd.offset x' cf t h n) t h n:=by
 intro κ hg
 have e:LV fd.offset x' cf t h n κ=Q2 (ev x' t) (fun p o=>κ (.ptr p (Nat.add o fd.offset)) h n) (fun o=>RQ o (fun i j m=>br (Nat.ble (Nat.succ fd.offset) m) (κ (.oth (.ap i (Nat.add j fd.offset) (Nat.sub m fd.offset))) h n) (.fail "")) (.fail "")):=by simp only [LV,AS,Ah]
 rw [e] at hg
 rcases JM hg with ⟨p,off,hb,e'⟩ | ⟨oo,hb,e'⟩
 rotate_left
 ·rw [e'] at hg
  cases oo with
  | ap i j m =>
   have hg':R.good (br (Nat.ble (Nat.succ fd.offset) m) (κ (.oth (.ap i (Nat.add j fd.offset) (Nat.sub m fd.offset))) h n) (.fail "")):=hg
   obtain ⟨h1,e1⟩:=Ao hg'
   have h1:=BT h1
   refine ⟨_,e.trans (e'.trans e1),fun φ a w ht hg=>?_⟩
   have h2:=Am hx ht
   rw [hb] at h2
   simp only [AG] at h2
   obtain ⟨b,q,c,e2,fr,h2,c1,c2⟩:=h2
   refine ⟨.pointer (some ⟨b,q+fd.offset,none⟩),?_,?_⟩
   ·have hfp:(fieldPlace ⟨b,q,none⟩ fd).run P w = .ok ⟨b,q+fd.offset,none⟩ w:=by
     unfold fieldPlace
     simp [CT,Bh hsz]
    simp [execOp,ho,h2,Instr.fieldAt,run_underlying hs,hf,Instr.sureAddr,hfp]
   ·simp only [AG]
    refine ⟨b,q+fd.offset,c,e2,fr,rfl,c1,fun j' hj=>?_⟩
    have hj:j'<m - fd.offset:=hj
    obtain ⟨y,y1,y2⟩:=c2 (fd.offset+j') (by omega)
    refine ⟨y,by rw [Nat.add_assoc]; exact y1,?_⟩
    have e5:Nat.add j fd.offset+j'=j+(fd.offset+j'):=Nat.add_assoc ..
    rw [e5]; exact y2
  | _=>exact hg.elim
 refine ⟨_,e.trans e',fun φ a w ht hg=>?_⟩
 have h1:=Am hx ht
 rw [hb] at h1
 obtain ⟨b,sh,tot,hp,h1⟩:=CQ h1
 refine ⟨.pointer (some ⟨b,sh+(off+fd.offset),none⟩),?_,by simp only [AG]; exact ⟨b,sh,tot,hp,rfl⟩⟩
 have hfp:(fieldPlace ⟨b,sh+off,none⟩ fd).run P w = .ok ⟨b,sh+(off+fd.offset),none⟩ w:=by
  unfold fieldPlace
  simp [CT,Nat.add_assoc,Bh hsz]
 simp [execOp,ho,h1,Instr.fieldAt,run_underlying hs,hf,Instr.sureAddr,hfp]
theorem M8 {s:TypeId} {f:Nat} {fs:Array Field} {fd:Field} {ag:Bool} {sz:Nat} {x:Operand} {x':Opd} (ho:o.op = .field s x f) (hx:AY N x=some x') (hs:P.underlying s=some (.struct fs)) (hf:fs[f]? = some fd)
  (ha:KY P fd.type=some ag) (hsz:Bw P fd.type=some sz):Bo P ρ B N o (LL fd.offset sz ag x' cf t h n) t h n:=by
 intro κ hg
 have e:LL fd.offset sz ag x' cf t h n κ=asAgg (ev x' t) fun l=>br ag (E6 fd.offset l fun r=>Dq sz r fun r=>κ (.agg r) h n) (Ee fd.offset l fun v=>κ v h n):=by simp only [LL,AS]
 rw [e] at hg
 obtain ⟨l,hb,e'⟩:=Cy hg
 rw [e'] at hg
 cases ag with
 | true =>
  have hg:R.good (E6 fd.offset l fun r=>Dq sz r fun r=>κ (.agg r) h n):=hg
  obtain ⟨_,e2⟩:=EJ hg
  rw [e2] at hg
  obtain ⟨h3,e3⟩:=EC hg
  refine ⟨.agg ((l.drop fd.offset).take sz),e.trans (e'.trans (e2.trans e3)),fun φ a w ht hg=>?_⟩
  have h1:=Am hx ht
  rw [hb] at h1
  obtain ⟨cs,h1,hl,h2⟩:=E3 h1
  refine ⟨.agg (cs.extract fd.offset (fd.offset+sz)),by simp [execOp,ho,h1,Instr.field,run_underlying hs,hf,Go.asAgg,part,CE ha,Bh hsz],?_⟩
  simp only [AG]
  have hx:(cs.extract fd.offset (fd.offset+sz)).toList=(cs.toList.drop fd.offset).take sz:=by simp
  exact ⟨_,rfl,by rw [hx]; exact IB (IS hl _) _,fun y hy=>h2 y (by rw [hx] at hy; exact List.mem_of_mem_drop (List.mem_of_mem_take hy))⟩
 | false =>
  have hg:R.good (Ee fd.offset l fun v=>κ v h n):=hg
  obtain ⟨v,hv,e2⟩:=Eu hg
  refine ⟨v,e.trans (e'.trans e2),fun φ a w ht hg=>?_⟩
  have h1:=Am hx ht
  rw [hb] at h1
  obtain ⟨cs,h1,hl,h2⟩:=E3 h1
  obtain ⟨X,hX,hr⟩:=(Cc.1 hl).2 _ v hv
  exact ⟨X,by simp [execOp,ho,h1,Instr.field,run_underlying hs,hf,Go.asAgg,part,CE ha,show cs[fd.offset]? = some X by simpa using hX],hr⟩
theorem MG {ty e:TypeId} {esz:Nat} {x i:Operand} {x' i':Opd} (ho:o.op = .indexAddr ty x i) (hx:AY N x=some x') (hi:AY N i=some i') (ht:P.underlying ty=some (.slice e)) (he:Bw P e=some esz) :
  Bo P ρ B N o (M3 esz x' i' cf t h n) t h n:=by
 intro κ hg
 have e1:M3 esz x' i' cf t h n κ=Iw (ev i' t) fun a=>Hb (ev x' t) (.fail "") (fun p off len cap ex esz'=>br (Nat.beq esz' esz) (br (Nat.ble (Nat.succ a) len) (κ (.ptr p (Nat.add off (Nat.mul a esz))) h n) (.fail "")) (.fail ""))
   (fun o=>PW o (fun i lo hi z=>br (Nat.beq z esz) (br (Nat.ble (Nat.succ a) lo) (κ (.oth (.ap i (Nat.mul a esz) esz)) h n) (.fail "")) (.fail "")) (.fail "")):=by
  simp only [M3,AS,Ah]
 rw [e1] at hg
 obtain ⟨k,r,hiv,hr,e2⟩:=De hg
 rw [e2] at hg
 rcases J0 hg with ⟨_,e3⟩ | ⟨p,off,len,cap,ex,esz',hxv,e3⟩ | ⟨oo,hxv,e3⟩
 ·rw [e3] at hg; exact hg.elim
 rotate_left
 ·rw [e3] at hg
  cases oo with
  | ro i0 l0 l1 z =>
   have hg':R.good (br (Nat.beq z esz) (br (Nat.ble (Nat.succ r) l0) (κ (.oth (.ap i0 (Nat.mul r esz) esz)) h n) (.fail "")) (.fail "")):=hg
   obtain ⟨h4,e4⟩:=Ao hg'
   rw [e4] at hg'
   obtain ⟨h5,e5⟩:=Ao hg'
   have h4:=Nat.eq_of_beq_eq_true h4
   have h5:=BT h5
   subst h4
   refine ⟨_,e1.trans (e2.trans (e3.trans (e4.trans e5))),fun φ a w hT hg=>?_⟩
   have g1:=Am hx hT
   have g2:=Am hi hT
   rw [hxv] at g1; rw [hiv] at g2
   simp only [AG] at g1
   obtain ⟨b,q,len,cap,c,e',fr,g1,c1,c2,c3,c4,c5⟩:=g1
   have g2:=EP hr g2
   refine ⟨.pointer (some ⟨b,q+r*z,none⟩),?_,?_⟩
   ·simp only [execOp,ho,g1,g2,Instr.indexAt,Go.asIntOf,Sem.run_bind,Sem.run_pure,Result.andThen_ok,run_underlying ht]
    have hc:(0:Int)≤(r:Int)∧(r:Int)<(len:Int):=by omega
    simp [hc,Bh he,CT]
   ·simp only [AG]
    refine ⟨b,q+r*z,c,e',fr,rfl,c4,fun j hj=>?_⟩
    have h6:r*z+j<len*z:=Nat.lt_of_lt_of_le (Nat.add_lt_add_left hj _) (by rw [←Nat.succ_mul]; exact Nat.mul_le_mul_right _ (by omega))
    obtain ⟨y,y1,y2⟩:=c5 (r*z+j) h6
    exact ⟨y,by rw [Nat.add_assoc]; exact y1,y2⟩
  | _=>exact hg.elim
 rw [e3] at hg
 obtain ⟨h4,e4⟩:=Ao hg
 rw [e4] at hg
 obtain ⟨h5,e5⟩:=Ao hg
 have h4:=Nat.eq_of_beq_eq_true h4
 have h5:=BT h5
 subst h4
 refine ⟨_,e1.trans (e2.trans (e3.trans (e4.trans e5))),fun φ a w hT hg=>?_⟩
 have g1:=Am hx hT
 have g2:=Am hi hT
 rw [hxv] at g1; rw [hiv] at g2
 obtain ⟨b,s,tot,q,cap',hp,g1,c1,c2,c3,c4⟩:=CJ g1
 have g2:=EP hr g2
 obtain ⟨c5,c6⟩:=c4 (by omega)
 refine ⟨.pointer (some ⟨b,s+(off+r*esz'),none⟩),?_,by simp only [AG]; exact ⟨b,s,tot,hp,rfl⟩⟩
 simp only [execOp,ho,g1,g2,Instr.indexAt,Go.asIntOf,Sem.run_bind,Sem.run_pure,Result.andThen_ok,run_underlying ht]
 have hc:(0:Int)≤(r:Int)∧(r:Int)<(len:Int):=by omega
 simp [hc,Bh he,CT,c5,Nat.add_assoc]
theorem My {ty e:TypeId} {m esz:Nat} {x i:Operand} {x' i':Opd} (ho:o.op = .indexAddr ty x i) (hx:AY N x=some x') (hi:AY N i=some i') (ht:P.underlying ty=some (.array m e)) (he:Bw P e=some esz) :
  Bo P ρ B N o (Lp m esz x' i' cf t h n) t h n:=by
 intro κ hg
 have e1:Lp m esz x' i' cf t h n κ=Iw (ev i' t) fun a=>IR (ev x' t) fun p off=>br (Nat.ble (Nat.succ a) m) (κ (.ptr p (Nat.add off (Nat.mul a esz))) h n) (.fail ""):=by
  simp only [Lp,AS,Ah]
 rw [e1] at hg
 obtain ⟨k,r,hiv,hr,e2⟩:=De hg
 rw [e2] at hg
 obtain ⟨p,off,hxv,e3⟩:=CW hg
 rw [e3] at hg
 obtain ⟨h5,e5⟩:=Ao hg
 have h5:=BT h5
 refine ⟨_,e1.trans (e2.trans (e3.trans e5)),fun φ a w hT hg=>?_⟩
 have g1:=Am hx hT
 have g2:=Am hi hT
 rw [hxv] at g1; rw [hiv] at g2
 obtain ⟨b,s,tot,hp,g1⟩:=CQ g1
 have g2:=EP hr g2
 refine ⟨.pointer (some ⟨b,s+(off+r*esz),none⟩),?_,by simp only [AG]; exact ⟨b,s,tot,hp,rfl⟩⟩
 simp only [execOp,ho,g1,g2,Instr.indexAt,Go.asIntOf,Instr.sureAddr,Sem.run_bind,Sem.run_pure,Result.andThen_ok,run_underlying ht]
 have hc:(0:Int)≤(r:Int)∧(r:Int)<(m:Int):=by omega
 simp [hc,Bh he,CT,Nat.add_assoc]
theorem LE {ty:TypeId} {x i:Operand} {x' i':Opd} (ho:o.op = .index ty x i) (hx:AY N x=some x') (hi:AY N i=some i') (ht:P.underlying ty=some .string) :
  Bo P ρ B N o (Ll x' i' cf t h n) t h n:=by
 intro κ hg
 have e1:Ll x' i' cf t h n κ=Iw (ev i' t) fun a=>Bl (ev x' t) fun m c=>br (Nat.ble (Nat.succ a) m) (κ (.int .u8 (lo (sh c a) 1)) h n) (.fail ""):=by
  simp only [Ll,AS,Ah]
 rw [e1] at hg
 obtain ⟨k,r,hiv,hr,e2⟩:=De hg
 rw [e2] at hg
 obtain ⟨m,c,hxv,e3⟩:=BX hg
 rw [e3] at hg
 obtain ⟨h5,e5⟩:=Ao hg
 have h5:=BT h5
 refine ⟨_,e1.trans (e2.trans (e3.trans e5)),fun φ a w hT hg=>?_⟩
 have g1:=Am hx hT
 have g2:=Am hi hT
 rw [hxv] at g1; rw [hiv] at g2
 obtain ⟨s,gx,hs,hc⟩:=Cg g1
 have g2:=EP hr g2
 clear g1
 subst hs hc
 have hr':r<s.data.toList.length:=by rw [BI]; exact h5
 have hb:lo (sh (B7 s.data.toList) r) 1=s.data.toList[r].toNat:=by rw [V4]; exact I6 _ _ hr'
 have hlt:=s.data.toList[r].toNat_lt
 refine ⟨.int .u8 (s.data.toList[r].toNat:Nat),?_,?_⟩
 ·simp only [execOp,ho,gx,g2,Instr.index,Go.asIntOf,Sem.run_bind,Sem.run_pure,Result.andThen_ok,run_underlying ht]
  have h0:(0:Int)≤(r:Int):=by omega
  have AL:s[(r:Int).toNat]? = some s.data.toList[r]:=by
   rw [Int.toNat_natCast,getElem?_pos s r h5]; rfl
  simp only [h0,if_true,AL,Sem.run_pure,Result.andThen_ok]
 ·rw [hb]
  simp only [AG]
  refine ⟨by simp [Mk]; exact hlt,?_⟩
  rw [AA (by simp [Hk]; exact hlt)]
theorem LO {ty e:TypeId} {m esz:Nat} {ag:Bool} {x i:Operand} {x' i':Opd} (ho:o.op = .index ty x i) (hx:AY N x=some x') (hi:AY N i=some i') (ht:P.underlying ty=some (.array m e))
  (ha:KY P e=some ag) (he:Bw P e=some esz):Bo P ρ B N o (LH m esz ag x' i' cf t h n) t h n:=by
 intro κ hg
 have e1:LH m esz ag x' i' cf t h n κ=Iw (ev i' t) fun a=>asAgg (ev x' t) fun l=>br (Nat.ble (Nat.succ a) m) (br ag (E6 (Nat.mul a esz) l fun r=>Dq esz r fun r=>κ (.agg r) h n) (Ee (Nat.mul a esz) l fun v=>κ v h n)) (.fail ""):=by
  simp only [LH,AS,Ah]
 rw [e1] at hg
 obtain ⟨k,r,hiv,hr,e2⟩:=De hg
 rw [e2] at hg
 obtain ⟨l,hxv,e3⟩:=Cy hg
 rw [e3] at hg
 obtain ⟨h5,e5⟩:=Ao hg
 rw [e5] at hg
 have h5:=BT h5
 have key:∀ (v:V) (part:∀ (φ:B6) (cs:Array Value) (w:World),Bu ρ φ l cs.toList->(∀ y∈cs.toList,y.oneCell'=true)->∃ X,(Go.part e cs (r*esz)).run P w = .ok X w∧AG ρ φ v X),Tk P ρ B N o t h n v:=fun v part =>
  fun φ a w hT hg=>by
   have g1:=Am hx hT
   have g2:=Am hi hT
   rw [hxv] at g1; rw [hiv] at g2
   obtain ⟨cs,g1,hl,h2⟩:=E3 g1
   have g2:=EP hr g2
   obtain ⟨X,hX,hrX⟩:=part φ cs w hl h2
   refine ⟨X,?_,hrX⟩
   simp only [execOp,ho,g1,g2,Instr.index,Go.asIntOf,Sem.run_bind,Sem.run_pure,Result.andThen_ok,run_underlying ht]
   have hc:(0:Int)≤(r:Int)∧(r:Int)<(m:Int):=by omega
   simp [hc,Bh he,hX]
 cases ag with
 | true =>
  have hg:R.good (E6 (r*esz) l fun r=>Dq esz r fun r=>κ (.agg r) h n):=hg
  obtain ⟨_,e6⟩:=EJ hg
  rw [e6] at hg
  obtain ⟨h7,e7⟩:=EC hg
  refine ⟨.agg ((l.drop (r*esz)).take esz),e1.trans (e2.trans (e3.trans (e5.trans (e6.trans e7)))),key _ fun φ cs w hl h2=>?_⟩
  refine ⟨.agg (cs.extract (r*esz) (r*esz+esz)),by simp [part,CE ha,Bh he],?_⟩
  simp only [AG]
  have hx:(cs.extract (r*esz) (r*esz+esz)).toList=(cs.toList.drop (r*esz)).take esz:=by simp
  exact ⟨_,rfl,by rw [hx]; exact IB (IS hl _) _,fun y hy=>h2 y (by rw [hx] at hy; exact List.mem_of_mem_drop (List.mem_of_mem_take hy))⟩
 | false =>
  have hg:R.good (Ee (r*esz) l fun v=>κ v h n):=hg
  obtain ⟨v,hv,e6⟩:=Eu hg
  refine ⟨v,e1.trans (e2.trans (e3.trans (e5.trans e6))),key v fun φ cs w hl h2=>?_⟩
  obtain ⟨X,hX,hrX⟩:=(Cc.1 hl).2 _ v hv
  exact ⟨X,by simp [part,CE ha,show cs[r*esz]? = some X by simpa using hX],hrX⟩
theorem Jj {x:Operand} {x':Opd} (ho:o.op = .nilCheck x) (hx:AY N x=some x'):Bo P ρ B N o (DY x' cf t h n) t h n:=by
 intro κ hg
 cases hv:ev x' t with
 | ptr p off =>
  refine ⟨_,(by simp only [DY,AS]; rw [hv]:DY x' cf t h n κ=κ (.ptr p off) h n),fun φ a w hT hg=>?_⟩
  have g1:=Am hx hT
  rw [hv] at g1
  obtain ⟨b,s,tot,hp,e⟩:=CQ g1
  exact ⟨a.eval x,by simp [execOp,ho,e],g1⟩
 | fn f l =>
  refine ⟨_,(by simp only [DY,AS]; rw [hv]:DY x' cf t h n κ=κ (.fn f l) h n),fun φ a w hT hg=>?_⟩
  have g1:=Am hx hT
  rw [hv] at g1
  obtain ⟨cs,e,hl⟩:=IA g1
  exact ⟨a.eval x,by simp [execOp,ho,e],g1⟩
 | _ =>
  have e:DY x' cf t h n κ = .fail "":=by simp only [DY,AS]; rw [hv]
  rw [e] at hg; exact hg.elim
theorem Ou {k:IntKind} {x y:Int} (w:World):(Builtin.max2 (.int k x) (.int k y)).run P w = .ok (.int k (if y > x then y else x)) w:=rfl
theorem Sj {k:IntKind} {x y:Int} (w:World):(Builtin.min2 (.int k x) (.int k y)).run P w = .ok (.int k (if y<x then y else x)) w:=rfl
theorem LS {c:Call} {x y:Operand} {x' y':Opd} (ho:o.op = .call c) (hc:c.callee = .builtin .min) (ha:c.args.toList=[x,y]) (hx:AY N x=some x') (hy:AY N y=some y') :
  Bo P ρ B N o (ME x' y' cf t h n) t h n:=by
 intro κ hg
 have e1:ME x' y' cf t h n κ=W9 (ev x' t) (ev y' t) fun v=>κ v h n:=by simp only [ME,AS]
 rw [e1] at hg
 obtain ⟨u,e2,H⟩:=TK hg
 refine ⟨u,e1.trans e2,fun φ ac w hT hg=>?_⟩
 have g1:=Am hx hT
 have g2:=Am hy hT
 obtain ⟨k,p,q,q1,q2,hr⟩:=H ρ φ _ _ g1 g2
 have hargs:c.args = #[x,y]:=by rw [←ha]
 refine ⟨_,?_,hr⟩
 simp only [execOp,ho,resolve,hc,hargs,invoke,builtin,Builtin.min_,Sem.run_bind,Sem.run_pure,Result.andThen_ok]
 simp only [List.map_toArray,List.map_cons,List.map_nil,List.foldlM_cons,List.foldlM_nil,q1,q2,Sem.run_bind,Sj,Result.andThen_ok,Sem.run_pure]
theorem Mo {c:Call} {x y:Operand} {x' y':Opd} (ho:o.op = .call c) (hc:c.callee = .builtin .max) (ha:c.args.toList=[x,y]) (hx:AY N x=some x') (hy:AY N y=some y') :
  Bo P ρ B N o (Mw x' y' cf t h n) t h n:=by
 intro κ hg
 have e1:Mw x' y' cf t h n κ=Wi (ev x' t) (ev y' t) fun v=>κ v h n:=by simp only [Mw,AS]
 rw [e1] at hg
 obtain ⟨u,e2,H⟩:=Sw hg
 refine ⟨u,e1.trans e2,fun φ ac w hT hg=>?_⟩
 have g1:=Am hx hT
 have g2:=Am hy hT
 obtain ⟨k,p,q,q1,q2,hr⟩:=H ρ φ _ _ g1 g2
 have hargs:c.args = #[x,y]:=by rw [←ha]
 refine ⟨_,?_,hr⟩
 simp only [execOp,ho,resolve,hc,hargs,invoke,builtin,Builtin.max_,Sem.run_bind,Sem.run_pure,Result.andThen_ok]
 simp only [List.map_toArray,List.map_cons,List.map_nil,List.foldlM_cons,List.foldlM_nil,q1,q2,Sem.run_bind,Ou,Result.andThen_ok,Sem.run_pure]
theorem Hx {l:List Operand} {x:Opd} {xs:List Opd} (h:BB N l=some (x::xs)):∃ x0 l0,l=x0::l0∧AY N x0=some x∧BB N l0=some xs:=by
 cases l with
 | nil=>simp [BB] at h
 | cons a l =>
  simp only [BB] at h
  split at h
  ·rename_i y ys h1 h2
   cases h
   exact ⟨a,l,rfl,h1,h2⟩
  ·cases h
theorem Gt {l:List Operand} {x y z:Opd} (h:BB N l=some [x,y,z]):∃ x0 y0 z0,l=[x0,y0,z0]∧AY N x0=some x∧AY N y0=some y∧AY N z0=some z:=by
 obtain ⟨x0,l0,rfl,hx,h⟩:=Hx h
 obtain ⟨y0,l1,rfl,hy,h⟩:=Hx h
 obtain ⟨z0,l2,rfl,hz,h⟩:=Hx h
 cases l2 with
 | nil=>exact ⟨x0,y0,z0,rfl,hx,hy,hz⟩
 | cons a l =>
  simp only [BB] at h
  split at h <;> cases h
theorem Ko {c:Call} {x y z:Operand} {x' y' z':Opd} (ho:o.op = .call c) (hc:c.callee = .builtin .max) (ha:c.args.toList=[x,y,z]) (hx:AY N x=some x') (hy:AY N y=some y') (hz:AY N z=some z') :
  Bo P ρ B N o (IU x' y' z' cf t h n) t h n:=by
 intro κ hg
 have e1:IU x' y' z' cf t h n κ=FP (ev x' t) fun k a=>FP (ev y' t) fun j b=>FP (ev z' t) fun i c=>br (Bj k j) (br (Bj k i) (br (Ho k a b) (br (Ho k b c) (κ (ev z' t) h n) (κ (ev y' t) h n)) (br (Ho k a c) (κ (ev z' t) h n) (κ (ev x' t) h n))) (.fail "")) (.fail ""):=by simp only [IU,AS]
 rw [e1] at hg
 obtain ⟨k,a,hxv,e2⟩:=Cd hg
 rw [e2] at hg
 obtain ⟨j,b,hyv,e3⟩:=Cd hg
 rw [e3] at hg
 obtain ⟨i,d,hzv,e4⟩:=Cd hg
 rw [e4] at hg
 obtain ⟨rfl,e5⟩:=kb hg
 rw [e5] at hg
 obtain ⟨rfl,e6⟩:=kb hg
 refine ⟨if Ho k a b then (if Ho k b d then ev z' t else ev y' t) else (if Ho k a d then ev z' t else ev x' t),e1.trans (e2.trans (e3.trans (e4.trans (e5.trans (e6.trans (by cases Ho k a b <;> cases Ho k b d <;> cases Ho k a d <;> rfl)))))),fun φ ac w hT hg=>?_⟩
 have g1:=Am hx hT
 have g2:=Am hy hT
 have g3:=Am hz hT
 have g1':=g1; have g2':=g2; have g3':=g3
 rw [hxv] at g1'; rw [hyv] at g2'; rw [hzv] at g3'
 obtain ⟨ha1,q1⟩:=BQ g1'
 obtain ⟨hb1,q2⟩:=BQ g2'
 obtain ⟨hd1,q3⟩:=BQ g3'
 have hargs:c.args = #[x,y,z]:=by rw [←ha]
 refine ⟨if Ho k a b then (if Ho k b d then ac.eval z else ac.eval y) else (if Ho k a d then ac.eval z else ac.eval x),?_,by cases Ho k a b <;> cases Ho k b d <;> cases Ho k a d <;> assumption⟩
 simp only [execOp,ho,resolve,hc,hargs,invoke,builtin,Builtin.max_,Sem.run_bind,Sem.run_pure,Result.andThen_ok]
 simp only [List.map_toArray,List.map_cons,List.map_nil,List.foldlM_cons,List.foldlM_nil,q1,q2,q3,Sem.run_bind,Ou,Result.andThen_ok,Sem.run_pure]
 rw [Ej ha1 hb1,Ej hb1 hd1,Ej ha1 hd1]
 by_cases h1:BF k a<BF k b <;> by_cases h2:BF k b<BF k d <;> by_cases h3:BF k a<BF k d <;> simp [h1,h2,h3]
end
end Go.Ev

namespace Go.Ev
set_option linter.unusedVariables false
section
variable {P:Program} {ρ:Env} {B N:Nat} {o:Oper} {cf:CF} {t:Regs} {h:Heap} {n:K4}
def NW (v:Option Value) (r d:Nat):Prop:=(v=none∧r=d) ∨ ∃ k,v=some (.int k (r:Int))
theorem Cb {oo:Option Operand} {x:Option Opd} (hx:Fx N oo=some x) {d:Nat} {κ:Nat->R} (hg:(Cp x t d κ).good) :
  ∃ r,Cp x t d κ=κ r ∧ ∀ φ a,TR ρ N φ t a->NW (oo.map a.eval) r d:=by
 cases oo with
 | none =>
  simp only [Fx,Option.some.injEq] at hx; subst hx
  exact ⟨d,rfl,fun φ a _=>.inl ⟨rfl,rfl⟩⟩
 | some y =>
  simp only [Fx] at hx
  cases hy:AY N y with
  | none=>rw [hy] at hx; cases hx
  | some y' =>
   rw [hy] at hx; cases hx
   have e:Cp (some y') t d κ=Iw (ev y' t) κ:=AS y' t _
   rw [e] at hg
   obtain ⟨k,r,hv,hr,e'⟩:=De hg
   refine ⟨r,e.trans e',fun φ a ht=>.inr ⟨k,?_⟩⟩
   have:=Am hy ht
   rw [hv] at this
   rw [Option.map_some,EP hr this]
theorem DM {sl:Bool} {len cap:Nat} {lo hi:Option Value} {l m:Nat} (hl:NW lo l 0) (hh:NW hi m len) (h1:l≤m) (h2:m≤cap) (w:World) :
  (Instr.sliceBounds sl len cap lo hi none).run P w = .ok (l,m,cap) w:=by
 have hb:∀ (k:IntKind) (r y:Nat) (c:BoundsCode),r≤y->(Instr.sliceBound (.int k (r:Int)) y c).run P w = .ok r w:=fun k r y c hr=>by
  simp only [Instr.sliceBound,Go.asIntOf,Sem.run_bind,Sem.run_pure,Result.andThen_ok]
  have hc:(0:Int)≤(r:Int)∧(r:Int)≤(y:Int):=by omega
  simp [hc]
 rcases hl with ⟨rfl,rfl⟩ | ⟨k,rfl⟩ <;> rcases hh with ⟨rfl,rfl⟩ | ⟨j,rfl⟩ <;> simp [Instr.sliceBounds,hb _ _ _ _ h1,hb _ _ _ _ h2]
theorem LG {ty:TypeId} {x:Operand} {lo hi:Option Operand} {x':Opd} {lo' hi':Option Opd} (ho:o.op = .slice ty x lo hi none) (hx:AY N x=some x') (hlo:Fx N lo=some lo') (hhi:Fx N hi=some hi')
  (ht:P.underlying ty=some .string):Bo P ρ B N o (I2 x' lo' hi' cf t h n) t h n:=by
 intro κ hg
 have e0:I2 x' lo' hi' cf t h n κ=TZ (ev x' t) (fun l0 l1 _ _=>br (br (E0 hi') true (Nat.beq l0 l1)) (Cp hi' t l0 fun b=>Cp lo' t 0 fun a=>br (Nat.ble a b) (br (Nat.ble b l0) (κ (.oth (.ss (Nat.sub b a) (Nat.sub b a) (Nat.succ (Nat.sub b a)) 0)) h n) (.fail "")) (.fail "")) (.fail "")) (Bl (ev x' t) fun m c=>Cp hi' t m fun b=>Cp lo' t 0 fun a=>br (Nat.ble a b) (br (Nat.ble b m) (κ (.str (Nat.sub b a) (Ev.lo (sh c a) (Nat.sub b a))) h n) (.fail "")) (.fail "")):=by
  simp only [I2,AS,Ah]
 rw [e0] at hg
 rcases IL (ev x' t) (fun l0 l1 _ _=>br (br (E0 hi') true (Nat.beq l0 l1)) (Cp hi' t l0 fun b=>Cp lo' t 0 fun a=>br (Nat.ble a b) (br (Nat.ble b l0) (κ (.oth (.ss (Nat.sub b a) (Nat.sub b a) (Nat.succ (Nat.sub b a)) 0)) h n) (.fail "")) (.fail "")) (.fail "")) (Bl (ev x' t) fun m c=>Cp hi' t m fun b=>Cp lo' t 0 fun a=>br (Nat.ble a b) (br (Nat.ble b m) (κ (.str (Nat.sub b a) (Ev.lo (sh c a) (Nat.sub b a))) h n) (.fail "")) (.fail "")) with ⟨l0,l1,_,_,hxv,e1⟩ | e1
 ·rw [e1] at hg
  obtain ⟨hex,e2⟩:=Ao hg
  rw [e2] at hg
  obtain ⟨b,e3,hb⟩:=Cb (ρ:=ρ) hhi hg
  rw [e3] at hg
  obtain ⟨a,e4,ha⟩:=Cb (ρ:=ρ) hlo hg
  rw [e4] at hg
  obtain ⟨h6,e6⟩:=Ao hg
  rw [e6] at hg
  obtain ⟨h7,e7⟩:=Ao hg
  have h6:=Ap.1 h6; have h7:=Ap.1 h7
  refine ⟨_,e0.trans (e1.trans (e2.trans (e3.trans (e4.trans (e6.trans e7))))),fun φ ac w hT hg=>?_⟩
  have g1:=Am hx hT
  rw [hxv] at g1
  simp only [AG] at g1
  obtain ⟨s,gx,c1,c2,_⟩:=g1
  have hb':NW (hi.map ac.eval) b s.size:=by
   rcases hb φ ac hT with ⟨h1,h2⟩ | h1
   ·left
    refine ⟨h1,?_⟩
    have hn:E0 hi'=false:=by
     cases hi with
     | some y=>cases h1
     | none=>simp only [Fx,Option.some.injEq] at hhi; subst hhi; rfl
    rw [hn,AO] at hex
    have:=Nat.eq_of_beq_eq_true hex
    omega
   ·exact .inr h1
  refine ⟨.string (s.extract a b),?_,?_⟩
  ·simp only [execOp,ho,gx,Instr.sliceAt,Instr.slice,Sem.run_bind,run_underlying ht,Result.andThen_ok,Option.map_none]
   simp [DM (ha φ ac hT) hb' h6 (by omega:b≤s.size)]
  ·simp only [AG]
   have hsz:(s.extract a b).size=b - a:=by rw [ByteArray.size_extract]; omega
   exact ⟨_,rfl,by show b - a≤_; omega,by show _≤b - a; omega,fun h=>by have h1:(s.extract a b).size=(b - a)+1:=h.1; omega⟩
 have e1:=e0.trans e1
 rw [←e0,e1] at hg
 obtain ⟨m,c,hxv,e2⟩:=BX hg
 rw [e2] at hg
 obtain ⟨b,e3,hb⟩:=Cb (ρ:=ρ) hhi hg
 rw [e3] at hg
 obtain ⟨a,e4,ha⟩:=Cb (ρ:=ρ) hlo hg
 rw [e4] at hg
 obtain ⟨h5,e5⟩:=Ao hg
 rw [e5] at hg
 obtain ⟨h6,e6⟩:=Ao hg
 have h5:=Ap.1 h5; have h6:=Ap.1 h6
 refine ⟨_,e1.trans (e2.trans (e3.trans (e4.trans (e5.trans e6)))),fun φ ac w hT hg=>?_⟩
 have g1:=Am hx hT
 rw [hxv] at g1
 obtain ⟨s,gx,hs,hc⟩:=Cg g1
 clear g1
 subst hs hc
 refine ⟨.string (s.extract a b),?_,?_⟩
 ·simp only [execOp,ho,gx,Instr.sliceAt,Instr.slice,Sem.run_bind,run_underlying ht,Result.andThen_ok,Option.map_none]
  simp [DM (ha φ ac hT) (hb φ ac hT) h5 h6]
 ·have:=QH (s.extract a b) ρ φ
  have e:(s.extract a b).data.toList=(s.data.toList.drop a).take (b - a):=by
   rw [ByteArray.data_extract]; simp
  rw [e,←Sl,←NU] at this
  have hsz:(s.extract a b).size=b - a:=by rw [ByteArray.size_extract]; omega
  rw [hsz] at this
  rw [DE,EE]; exact this
theorem Mn {ty e:TypeId} {esz:Nat} {x:Operand} {lo hi:Option Operand} {x':Opd} {lo' hi':Option Opd} (ho:o.op = .slice ty x lo hi none) (hx:AY N x=some x') (hlo:Fx N lo=some lo') (hhi:Fx N hi=some hi')
  (ht:P.underlying ty=some (.slice e)) (he:Bw P e=some esz):Bo P ρ B N o (Ie esz x' lo' hi' cf t h n) t h n:=by
 intro κ hg
 have e0:Ie esz x' lo' hi' cf t h n κ=Wn (ev x' t) (fun l0 l1=>br (br (E0 hi') true (Nat.beq l0 l1)) (Cp hi' t l0 fun b=>Cp lo' t 0 fun a=>br (Nat.ble a b) (br (Nat.ble b l0) (κ (.oth (.os (Nat.sub b a) (Nat.sub b a))) h n) (.fail "")) (.fail "")) (.fail "")) (CX (ev x' t) (Cp hi' t 0 fun b=>Cp lo' t 0 fun a=>br (Nat.beq b 0) (br (Nat.beq a 0) (κ (.nil .sl) h n) (.fail "")) (.fail ""))
   (fun p off len cap ex esz'=>Cp hi' t len fun b=>Cp lo' t 0 fun a=>br (Nat.beq esz' esz) (br (Nat.ble a b) (br (Nat.ble b cap) (κ (.sl p (Nat.add off (Nat.mul a esz)) (Nat.sub b a) (Nat.sub cap a) ex esz) h n) (.fail "")) (.fail "")) (.fail ""))):=by
  simp only [Ie,AS,Ah]
 rw [e0] at hg
 rcases Ra (ev x' t) (fun l0 l1=>br (br (E0 hi') true (Nat.beq l0 l1)) (Cp hi' t l0 fun b=>Cp lo' t 0 fun a=>br (Nat.ble a b) (br (Nat.ble b l0) (κ (.oth (.os (Nat.sub b a) (Nat.sub b a))) h n) (.fail "")) (.fail "")) (.fail "")) (CX (ev x' t) (Cp hi' t 0 fun b=>Cp lo' t 0 fun a=>br (Nat.beq b 0) (br (Nat.beq a 0) (κ (.nil .sl) h n) (.fail "")) (.fail ""))
   (fun p off len cap ex esz'=>Cp hi' t len fun b=>Cp lo' t 0 fun a=>br (Nat.beq esz' esz) (br (Nat.ble a b) (br (Nat.ble b cap) (κ (.sl p (Nat.add off (Nat.mul a esz)) (Nat.sub b a) (Nat.sub cap a) ex esz) h n) (.fail "")) (.fail "")) (.fail ""))) with ⟨l0,l1,hxv,e1⟩ | e1
 ·rw [e1] at hg
  obtain ⟨hex,e2⟩:=Ao hg
  rw [e2] at hg
  obtain ⟨b,e3,hb⟩:=Cb (ρ:=ρ) hhi hg
  rw [e3] at hg
  obtain ⟨a,e4,ha⟩:=Cb (ρ:=ρ) hlo hg
  rw [e4] at hg
  obtain ⟨h6,e6⟩:=Ao hg
  rw [e6] at hg
  obtain ⟨h7,e7⟩:=Ao hg
  have h6:=Ap.1 h6; have h7:=Ap.1 h7
  refine ⟨_,e0.trans (e1.trans (e2.trans (e3.trans (e4.trans (e6.trans e7))))),fun φ ac w hT hg=>?_⟩
  have g1:=Am hx hT
  rw [hxv] at g1
  simp only [AG] at g1
  obtain ⟨p,len,cap,gx,c1,c2,c3⟩:=g1
  have hb':NW (hi.map ac.eval) b len:=by
   rcases hb φ ac hT with ⟨h1,h2⟩ | h1
   ·left
    refine ⟨h1,?_⟩
    have hn:E0 hi'=false:=by
     cases hi with
     | some y=>cases h1
     | none=>simp only [Fx,Option.some.injEq] at hhi; subst hhi; rfl
    rw [hn,AO] at hex
    have:=Nat.eq_of_beq_eq_true hex
    omega
   ·exact .inr h1
  refine ⟨.slice (if cap=a then p else p.map (·.add (a*esz))) (b - a) (cap - a),?_,?_⟩
  ·simp only [execOp,ho,gx,Instr.sliceAt,Instr.slice,Sem.run_bind,run_underlying ht,Result.andThen_ok,Option.map_none]
   simp [DM (ha φ ac hT) hb' h6 (by omega:b≤cap),Bh he]
  ·simp only [AG]
   exact ⟨_,_,_,rfl,Nat.le_refl _,Nat.le_refl _,by show b - a≤cap - a; omega⟩
 have e1:=e0.trans e1
 rw [←e0,e1] at hg
 rcases CC hg with ⟨hxv,e2⟩ | ⟨p,off,len,cap,ex,esz',hxv,e2⟩
 ·rw [e2] at hg
  obtain ⟨b,e3,hb⟩:=Cb (ρ:=ρ) hhi hg
  rw [e3] at hg
  obtain ⟨a,e4,ha⟩:=Cb (ρ:=ρ) hlo hg
  rw [e4] at hg
  obtain ⟨h5,e5⟩:=Ao hg
  rw [e5] at hg
  obtain ⟨h6,e6⟩:=Ao hg
  have h5:=Nat.eq_of_beq_eq_true h5; have h6:=Nat.eq_of_beq_eq_true h6
  subst h5 h6
  refine ⟨_,e1.trans (e2.trans (e3.trans (e4.trans (e5.trans e6)))),fun φ ac w hT hg=>?_⟩
  have g1:=Am hx hT
  rw [hxv] at g1
  have gx:=BW g1
  refine ⟨.slice none 0 0,?_,by simp only [AG,C7]⟩
  simp only [execOp,ho,gx,C7,Instr.sliceAt,Instr.slice,Sem.run_bind,run_underlying ht,Result.andThen_ok,Option.map_none]
  simp [DM (ha φ ac hT) (hb φ ac hT) (Nat.le_refl 0) (Nat.le_refl 0),Bh he]
 ·rw [e2] at hg
  obtain ⟨b,e3,hb⟩:=Cb (ρ:=ρ) hhi hg
  rw [e3] at hg
  obtain ⟨a,e4,ha⟩:=Cb (ρ:=ρ) hlo hg
  rw [e4] at hg
  obtain ⟨h5,e5⟩:=Ao hg
  rw [e5] at hg
  obtain ⟨h6,e6⟩:=Ao hg
  rw [e6] at hg
  obtain ⟨h7,e7⟩:=Ao hg
  have h5:=Nat.eq_of_beq_eq_true h5; have h6:=Ap.1 h6; have h7:=Ap.1 h7
  subst h5
  refine ⟨_,e1.trans (e2.trans (e3.trans (e4.trans (e5.trans (e6.trans e7))))),fun φ ac w hT hg=>?_⟩
  have g1:=Am hx hT
  rw [hxv] at g1
  obtain ⟨bk,s,tot,q,cap',hp,gx,c1,c2,c3,c4⟩:=CJ g1
  refine ⟨.slice (if cap'=a then some ⟨bk,q,none⟩ else some ⟨bk,q+a*esz',none⟩) (b - a) (cap' - a),?_,?_⟩
  ·simp only [execOp,ho,gx,Instr.sliceAt,Instr.slice,Sem.run_bind,run_underlying ht,Result.andThen_ok,Option.map_none]
   simp [DM (ha φ ac hT) (hb φ ac hT) h6 (Nat.le_trans h7 c2),Bh he,CT]
  ·simp only [AG]
   by_cases hca:cap'=a
   ·rw [if_pos hca]
    refine ⟨bk,s,tot,q,cap' - a,hp,rfl,by show b - a≤cap - a; omega,by show cap - a≤cap' - a; omega,fun hex=>by have:=c3 hex; show cap' - a=cap - a; omega,fun h0=>by omega⟩
   ·rw [if_neg hca]
    refine ⟨bk,s,tot,q+a*esz',cap' - a,hp,rfl,by show b - a≤cap - a; omega,by show cap - a≤cap' - a; omega,fun hex=>by have:=c3 hex; show cap' - a=cap - a; omega,fun h0=>?_⟩
    obtain ⟨c5,c6⟩:=c4 (by omega)
    refine ⟨by show q+a*esz'=s+(off+a*esz'); omega,?_⟩
    have hmul:a*esz'+(cap' - a)*esz'=cap'*esz':=by rw [←Nat.add_mul]; congr 1; omega
    omega
theorem Bs {ob:Ob} {κ:Heap->K4->R} (hg:(D2 h n ob κ).good):∃ n':K4,n'.toN=n.toN+1∧D2 h n ob κ=κ (B5 n h (some ob)) n':=by
 have e:D2 h n ob κ=n.nx fun n'=>κ (B5 n h (some ob)) n':=Bt _ _ _ _
 rw [e] at hg
 rcases K4.nx_eq n (fun n'=>κ (B5 n h (some ob)) n') with ⟨w,h'⟩ | ⟨q,h1,h2⟩
 ·rw [h'] at hg; exact hg.elim
 ·exact ⟨q,h1,e.trans h2⟩
theorem Gam.at_n {φ:B6} {w:World} (g:Gam ρ B h n φ w):φ n=none:=by
 cases hx:φ n with
 | none=>rfl
 | some x=>have:=g.dom n x hx; omega
theorem Cu {φ:B6} {w:World} {n':K4} (g:Gam ρ B h n φ w) (hn:n'.toN=n.toN+1) {cs:Cs} {c:Array Value} {e:TypeId} {fr:Nat×Nat} (hl:cs.len≤c.size) (hf:Vq fr c.size)
  (hc:Ek ρ φ cs fun i=>c[i]?) :
  Gam ρ B (B5 n h (some (.c cs false none))) n' (E5 φ n (w.heap.size,0,c.size)) (w.alloc (.cells c e fr)) ∧
  Fr h (B5 n h (some (.c cs false none))) φ (E5 φ n (w.heap.size,0,c.size)) n n' w (w.alloc (.cells c e fr)):=by
 refine ⟨g.alloc g.at_n (by omega) (by omega) (.c cs false none) rfl _ c.size fun φ' hle w' hw'=>?_,Fr.alloc g.at_n (by omega) (Nat.le_refl _) (by omega) _ _ _⟩
 exact ⟨c,e,fr,hw',rfl,by omega,hf,Fi hle (fun i v hv=>by rw [Nat.zero_add]; exact hc i v hv)⟩
theorem Jv (k:Nat):Vq (0,0) k:=.inl rfl
theorem DJ {φ:B6} {l:List V} {xs:List Value} (h:Bu ρ φ l xs) (h1:∀ y∈xs,y.oneCell'=true):Ek ρ φ (.l l) fun i=>xs[i]?:=fun i v hv=>by
 obtain ⟨x,hx,hr⟩:=(Cc.1 h).2 i v hv
 exact ⟨x,hx,hr,h1 x (List.mem_of_getElem? hx)⟩
theorem CU {φ:B6} {p:K4} {b tot:Nat}:AG ρ (E5 φ p (b,0,tot)) (.ptr p 0) (.pointer (some ⟨b,0,none⟩)):=by
 simp only [AG]; exact ⟨b,0,tot,BR _ _ _,rfl⟩
theorem EL {e:TypeId} {c:Array Value} (w:World):(newRow e c).run P w = .ok ⟨w.heap.size,0,none⟩ (w.alloc (.cells c e)):=rfl
theorem Rz {e:TypeId} {z:List V} (ho:o.op = .alloc e) (hz:D9 P e=some z):CB P ρ B N o (OX (.l z) cf t h n) t h n:=by
 intro κ hg
 obtain ⟨n',hn,e1⟩:=Bs (show R.good (D2 h n (.c (.l z) false none) fun h' n'=>κ (.ptr n 0) h' n') from hg)
 refine ⟨_,_,_,e1,.value fun φ a w hT g=>?_⟩
 unfold D9 at hz
 cases hi:(P.info? e).bind (·.zero) with
 | none=>rw [hi] at hz; cases hz
 | some zv =>
  rw [hi] at hz
  obtain ⟨hl,h1⟩:=Es (ρ:=ρ) (show Hd zv.cells.toList=some z from hz) φ
  have hc:=DJ hl h1
  obtain ⟨g1,g2⟩:=Cu g hn (e:=e) (fr:=(0,0)) (c:=zv.cells) (by have:=Bf hl; simp only [Cs.len]; simp at this; omega) (Jv _) (cs:=.l z) (fun i v hv=>by simpa using hc i v hv)
  refine ⟨_,.pointer (some ⟨w.heap.size,0,none⟩),_,?_,g2,g1,CU⟩
  simp [execOp,ho,Instr.alloc,Da hi,newVar,EL]
theorem Rf {e:TypeId} {x:Operand} {x':Opd} (hρ:Bq ρ) (ho:o.op = .box e x) (hx:AY N x=some x'):CB P ρ B N o (Iu x' cf t h n) t h n:=by
 intro κ hg
 have e1:Iu x' cf t h n κ=DQ (ev x' t) fun l=>D2 h n (.c (.l l) false none) fun h' n'=>κ (.ptr n 0) h' n':=by simp only [Iu,AS]
 rw [e1] at hg
 obtain ⟨hc,e2⟩:=Fb hg
 rw [e2] at hg
 obtain ⟨n',hn,e3⟩:=Bs hg
 refine ⟨_,_,_,e1.trans (e2.trans e3),.value fun φ a w hT g=>?_⟩
 obtain ⟨hl,h1⟩:=GX hρ hc (Am hx hT)
 have hcs:=DJ hl h1
 obtain ⟨g1,g2⟩:=Cu g hn (e:=e) (fr:=(0,0)) (c:=(a.eval x).cells) (by have:=Bf hl; simp only [Cs.len]; simp at this; omega) (Jv _) (cs:=.l (ev x' t).cl) (fun i v hv=>by simpa using hcs i v hv)
 refine ⟨_,.pointer (some ⟨w.heap.size,0,none⟩),_,?_,g2,g1,CU⟩
 simp [execOp,ho,Instr.box,newVar,EL]
theorem Oq {ty:TypeId} (ho:o.op = .makeMap ty none):CB P ρ B N o (Ih cf t h n) t h n:=by
 intro κ hg
 obtain ⟨n',hn,e1⟩:=Bs (show R.good (D2 h n (.m [] [] 0) fun h' n'=>κ (.map n) h' n') from hg)
 refine ⟨_,_,_,e1,.value fun φ a w hT g=>?_⟩
 refine ⟨_,.map (some w.heap.size),w.alloc (.map #[] 0),by simp [execOp,ho,Instr.makeMap,run_newObj],Fr.alloc g.at_n (by omega) (Nat.le_refl _) (by omega) _ _ 0,?_,?_⟩
 ·exact g.alloc g.at_n (by omega) (by omega) (.m [] [] 0) rfl _ 0 fun φ' hle w' hw'=>⟨#[],hw',rfl,rfl⟩
 ·simp only [AG]; exact ⟨w.heap.size,0,0,BR _ _ _,rfl⟩
theorem Ry {src dst e:TypeId} {x:Operand} {x':Opd} (ho:o.op = .convert src dst x) (hx:AY N x=some x') (hs:P.underlying src=some .string) (hd:P.underlying dst=some (.slice e)) (he:P.underlying e=some (.int .u8)) :
  CB P ρ B N o (HQ x' cf t h n) t h n:=by
 intro κ hg
 have e1:HQ x' cf t h n κ=Bl (ev x' t) fun m c=>D2 h n (.c (.b m c) false none) fun h' n'=>κ (.sl n 0 m m false 1) h' n':=by simp only [HQ,AS]
 rw [e1] at hg
 obtain ⟨m,c,hxv,e2⟩:=BX hg
 rw [e2] at hg
 obtain ⟨n',hn,e3⟩:=Bs hg
 refine ⟨_,_,_,e1.trans (e2.trans e3),.value fun φ a w hT g=>?_⟩
 have g1:=Am hx hT
 rw [hxv] at g1
 obtain ⟨s,gx,hsz,hc⟩:=Cg g1
 clear g1
 subst hsz hc
 -- the capacity is drawn
 obtain ⟨cap,w1,hcap,hrun,hw1⟩:∃ cap w1,s.size≤cap∧(choose (.appendCap s.size 0 e)).run P w = .ok cap w1∧w1=w.drew:=by
  refine ⟨_,_,?_,by rw [run_choose]; simp only [Question.forced,Bool.false_eq_true,if_false]; rfl,rfl⟩
  simp only [Question.cut]; omega
 subst hw1
 let cells:Array Value:=s.data.map (fun b=>Value.int .u8 b.toNat)++Array.replicate (cap - s.size) (.int .u8 0)
 have hsize:cells.size=cap:=by simp [cells]; omega
 have hcs:Ek ρ φ (.b s.size (B7 s.data.toList)) fun i=>cells[i]?:=fun i v hv=>by
  have hi:i<s.size:=Cs.lt_of_at hv
  rw [Cs.b_pos hi] at hv
  have hi':i<s.data.toList.length:=by rw [BI]; exact hi
  rw [I6 _ _ hi'] at hv
  cases hv
  have hlt:=s.data.toList[i].toNat_lt
  refine ⟨.int .u8 (s.data.toList[i].toNat:Nat),?_,?_,rfl⟩
  ·have hi2:i<s.data.size:=hi
   show (s.data.map (fun b=>Value.int .u8 b.toNat)++Array.replicate (cap - s.size) (.int .u8 0))[i]? = _
   rw [Array.getElem?_append_left (by simpa using hi2),Array.getElem?_map,Array.getElem?_eq_getElem hi2]
   simp
  ·simp only [AG]
   exact ⟨by simp [Mk]; exact hlt,by rw [AA (by simp [Hk]; exact hlt)]⟩
 obtain ⟨g2,g3⟩:=Cu (g.drew) hn (e:=e) (fr:=(cap,cap+1)) (c:=cells) (by simp only [Cs.len]; omega) (.inr (by rw [hsize]; exact Nat.le_refl _)) hcs
 refine ⟨_,.slice (some ⟨w.heap.size,0,none⟩) s.size cap,_,?_,Fr.trans Fr.drew g3,g2,?_⟩
 ·simp only [execOp,ho,gx,convert,Sem.run_bind,run_underlying hs,run_underlying hd,run_underlying he,Result.andThen_ok,Conv.stringToBytes,hrun]
  have hrow:(newRow e (Array.map (fun b=>Value.int IntKind.u8 ↑b.toNat) s.data++Array.replicate (cap - s.size) (Value.int IntKind.u8 0))).run P w.drew = .ok ⟨w.heap.size,0,none⟩ (w.drew.alloc (.cells cells e)):=rfl
  simp only [hrow,Result.andThen_ok]
  have hsh:(w.drew.alloc (.cells cells e)).shape? w.heap.size=some (e,cap):=by
   have:(w.drew.alloc (.cells cells e)).heap[w.heap.size]? = some (.cells cells e):=by show (w.heap.push _)[w.heap.size]? = _; simp
   unfold World.shape?; rw [this]; simp [hsize]
  have hfz:(w.drew.alloc (.cells cells e)).freeze { block:=w.heap.size,off:=cap } 1=w.drew.alloc (.cells cells e (cap,cap+1)):=by
   exact (Gg (show (w.drew.alloc (.cells cells e)).heap[w.heap.size]? = some (.cells cells e (0,0)) from HS (w:=w.drew))).trans (JQ (w:=w.drew))
  simp only [markStringish,Sem.run_bind,run_shape,hsh,Result.andThen_ok,run_freeze,hfz,Sem.run_pure]
 ·simp only [AG]
  refine ⟨w.heap.size,0,cells.size,0,cap,BR _ _ _,rfl,Nat.le_refl _,hcap,(fun h=>by cases h),(fun _=>⟨rfl,by rw [hsize]; omega⟩)⟩
end
end Go.Ev

namespace Go.Ev
set_option linter.unusedVariables false
section
variable {P:Program} {ρ:Env} {B N:Nat} {o:Oper} {cf:CF} {t:Regs} {h:Heap} {n:K4}
theorem CS {p:K4} {κ:Cs->Bool->Option K4->R} (hg:(IJ p h κ).good):∃ cs sup prev,AL p h=some (.c cs sup prev)∧IJ p h κ=κ cs sup prev:=by
 have e:IJ p h κ=@Option.rec Ob (fun _=>R) (.fail "") (fun o=>@Ob.rec (fun _=>R) κ (C2 "") (Fp "") (.fail "") (AV "") o) (AL p h):=DF _ _ _
 rw [e] at hg
 cases hx:AL p h with
 | none=>rw [hx] at hg; exact hg.elim
 | some ob =>
  rw [hx] at hg e
  cases ob with
  | c cs sup prev=>exact ⟨cs,sup,prev,rfl,e⟩
  | m _ _ _=>exact hg.elim
  | it _ _ _ _=>exact hg.elim
  | it0=>exact hg.elim
  | lp _ _=>exact hg.elim
theorem E9 {p:K4} {κ:List (V×V)->List Nat->Nat->R} (hg:(P1 p h κ).good):∃ es bs c,AL p h=some (.m es bs c)∧P1 p h κ=κ es bs c:=by
 have e:P1 p h κ=@Option.rec Ob (fun _=>R) (.fail "") (fun o=>@Ob.rec (fun _=>R) (C2 "") κ (Fp "") (.fail "") (AV "") o) (AL p h):=DF _ _ _
 rw [e] at hg
 cases hx:AL p h with
 | none=>rw [hx] at hg; exact hg.elim
 | some ob =>
  rw [hx] at hg e
  cases ob with
  | c cs sup prev=>exact hg.elim
  | m es bs c=>exact ⟨es,bs,c,rfl,e⟩
  | it _ _ _ _=>exact hg.elim
  | it0=>exact hg.elim
  | lp _ _=>exact hg.elim
theorem Ug {ρ:Env} {φ:B6} {z:Int} (z1 : -9223372036854775808≤z) (z2:z<9223372036854775808):AG ρ φ (.oth (.iv .i64 0 18446744073709551615)) (.int .i64 z):=by
 simp only [AG]
 by_cases h0:0≤z
 ·refine ⟨z.toNat,Nat.zero_le _,by omega,by simp only [Mk]; omega,?_⟩
  rw [AA (by simp only [Hk]; omega)]; congr 1; omega
 ·refine ⟨(z+18446744073709551616).toNat,Nat.zero_le _,by omega,by simp only [Mk]; omega,?_⟩
  rw [CL (by simp only [Hk]; omega)]; congr 1; simp only [Mk]; omega
theorem Tq {ρ:Env} {i j:Nat} {κ:V->R} (hg:(XM i j κ).good) (h3:¬ i≤36893488147419103231) (h5:i≤73786976294838206463):∃ v,XM i j κ=κ v ∧ ∀ (φ:B6) y,Lb ρ i j y->AG ρ φ v y:=by
 have key:∀ y,Lb ρ i j y->∃ r,r<Mk .i64∧y = .int .i64 (BF .i64 r)∧(36893488147419103232<i->j=Xc i->(BF .i64 r).tmod (HU i:Nat)+(HU i:Nat)=(Qw i:Nat)):=fun y hy=>by
  rcases hy with ⟨h,_⟩ | ⟨_,h,_⟩ | ⟨_,h,_⟩ | ⟨_,_,h⟩ | ⟨h,_⟩
  ·omega
  ·omega
  ·omega
  ·exact h
  ·omega
 have any:∀ (φ:B6) y,Lb ρ i j y->AG ρ φ (.oth (.iv .i64 0 18446744073709551615)) y:=fun φ y hy=>by
  obtain ⟨r,hr,rfl,_⟩:=key y hy
  simp only [AG]; exact ⟨r,Nat.zero_le _,by simp only [Mk] at hr; omega,hr,rfl⟩
 unfold XM at hg ⊢
 cases h1:Nat.ble i 36893488147419103232 with
 | true=>exact ⟨_,rfl,any⟩
 | false =>
  have h1':¬ i≤36893488147419103232:=fun h=>by rw [Ap.2 h] at h1; cases h1
  rw [h1,AO] at hg
  rw [AO]
  cases h2:Nat.beq j (Xc i) with
  | false=>exact ⟨_,rfl,any⟩
  | true =>
   rw [h2] at hg
   have h2:j=Xc i:=Nat.eq_of_beq_eq_true h2
   have hm:HU i<65536:=Nat.mod_lt _ (by decide)
   have ht:Qw i<65536:=Nat.mod_lt _ (by decide)
   rw [AQ,Ah,Ah] at hg ⊢
   -- the remainder,as an integer
   have val:∀ y,Lb ρ i j y->∃ z:Int,y = .int .i64 z ∧ -9223372036854775808≤z∧z<9223372036854775808∧z.tmod (HU i:Nat)+(HU i:Nat)=(Qw i:Nat):=fun y hy=>by
    obtain ⟨r,hr,rfl,hz⟩:=key y hy
    have hz:=hz (by omega) h2
    refine ⟨_,rfl,?_,?_,hz⟩
    ·have hr:r<18446744073709551616:=hr
     by_cases hh:r<9223372036854775808
     ·rw [AA (by simp only [Hk]; omega)]; omega
     ·rw [CL (by simp only [Hk]; omega)]; simp only [Mk]; omega
    ·have hr:r<18446744073709551616:=hr
     by_cases hh:r<9223372036854775808
     ·rw [AA (by simp only [Hk]; omega)]; omega
     ·rw [CL (by simp only [Hk]; omega)]; simp only [Mk]; omega
   have abs:∀ z:Int,(z.tmod (HU i:Nat)).natAbs=z.natAbs % HU i:=fun z=>by rw [Int.natAbs_tmod,Int.natAbs_natCast]
   cases h3:Nat.ble (Nat.succ (HU i)) (Qw i) with
   | true =>
    have h3:HU i+1≤Qw i:=Ap.1 h3
    refine ⟨.oth (.rs (18446744073709551616+HU i) (Qw i - HU i)),by rw [AQ,Ah]; rfl,fun φ y hy=>?_⟩
    obtain ⟨z,rfl,z1,z2,z3⟩:=val y hy
    have ha:=abs z
    have hz:0≤z:=by
     by_cases hz:0≤z
     ·exact hz
     ·have h4:0≤(-z).tmod (HU i:Nat):=Int.tmod_nonneg _ (by omega)
      rw [Int.neg_tmod] at h4
      omega
    simp only [AG]
    refine ⟨z,rfl,z1,z2,.inl ⟨by omega,?_⟩,fun _ _=>hz,fun h=>by omega⟩
    rw [show (18446744073709551616+HU i) % 18446744073709551616=HU i by omega,←ha]; omega
   | false =>
    have h3':¬ HU i+1≤Qw i:=fun h=>by rw [Ap.2 h] at h3; cases h3
    rw [h3,AO] at hg
    rw [AO]
    cases h4:Nat.beq (Qw i) (HU i) with
    | true =>
     have h4':Qw i=HU i:=Nat.eq_of_beq_eq_true h4
     rw [h4,AQ] at hg
     obtain ⟨h6,e⟩:=Ao hg
     refine ⟨.oth (.rs (HU i) 0),by rw [AQ]; exact e,fun φ y hy=>?_⟩
     obtain ⟨z,rfl,z1,z2,z3⟩:=val y hy
     have ha:=abs z
     simp only [AG]
     refine ⟨z,rfl,z1,z2,.inl ⟨by omega,?_⟩,fun h=>by omega,fun h=>by omega⟩
     rw [Nat.mod_eq_of_lt (show HU i<18446744073709551616 by omega),←ha]; omega
    | false =>
     have h4':Qw i≠HU i:=fun h=>by rw [h,Nat.beq_refl] at h4; cases h4
     refine ⟨.oth (.rs (73786976294838206464+HU i) ((HU i - Qw i)*18446744073709551616+(HU i - Qw i))),by rw [AO,Ah]; rfl,fun φ y hy=>?_⟩
     obtain ⟨z,rfl,z1,z2,z3⟩:=val y hy
     have ha:=abs z
     have hz:z<0:=by
      by_cases hz:0≤z
      ·have h4:0≤z.tmod (HU i:Nat):=Int.tmod_nonneg _ hz
       omega
      ·omega
     simp only [AG]
     have e7:(73786976294838206464+HU i) % 18446744073709551616=HU i:=by omega
     refine ⟨z,rfl,z1,z2,.inr ⟨by omega,?_,?_⟩,fun _ h=>by omega,fun _=>hz⟩
     ·rw [e7,←ha]; omega
     ·rw [e7,←ha]; omega
theorem TG {ρ:Env} {i j:Nat} {κ:V->R} (hg:(XX i j κ).good) (h5:¬ i≤73786976294838206463):∃ v,XX i j κ=κ v ∧ ∀ (φ:B6) y,Lb ρ i j y->AG ρ φ v y:=by
 have key:∀ y,Lb ρ i j y->∃ z:Int,y = .int .i64 z ∧ -9223372036854775808≤z∧z<9223372036854775808∧(j<Y5 i->z.natAbs % W5 i=Yh i j):=fun y hy=>by
  rcases hy with ⟨h,_⟩ | ⟨_,h,_⟩ | ⟨_,h,_⟩ | ⟨_,h,_⟩ | ⟨_,z,rfl,z1,z2,z3⟩
  ·omega
  ·omega
  ·omega
  ·omega
  ·exact ⟨z,rfl,z1,z2,z3⟩
 unfold XX at hg ⊢
 cases h1:Nat.ble (Nat.succ j) (Y5 i) with
 | false =>
  refine ⟨_,by rw [AO],fun φ y hy=>?_⟩
  obtain ⟨z,rfl,z1,z2,_⟩:=key y hy
  exact Ug z1 z2
 | true =>
  rw [h1,AQ,Ah] at hg
  obtain ⟨hm,e⟩:=Ao hg
  have hm:=Ap.1 hm
  refine ⟨.oth (.rs (W5 i) (Yh i j)),by rw [AQ,Ah,e,Ah],fun φ y hy=>?_⟩
  obtain ⟨z,rfl,z1,z2,z3⟩:=key y hy
  have z3:=z3 (Ap.1 h1)
  simp only [AG]
  exact ⟨z,rfl,z1,z2,.inl ⟨by omega,by rw [Nat.mod_eq_of_lt (show W5 i<18446744073709551616 by omega)]; exact z3⟩,fun h=>by omega,fun h=>by omega⟩
theorem NK {ty:TypeId} {x:Operand} {x':Opd} (ho:o.op = .load ty x) (hx:AY N x=some x') (ha:KY P ty=some false):Bo P ρ B N o (S2 x' cf t h n) t h n:=by
 intro κ hg
 have e1:S2 x' cf t h n κ=Q2 (ev x' t) (fun p off=>IJ p h fun cs _ _=>FY cs off fun v=>κ v h n) (fun o=>RQ o (fun i j m=>br (Nat.ble 1 m) (UM i j fun v=>κ v h n) (.fail "")) (.fail "")):=by simp only [S2,AS]
 rw [e1] at hg
 rcases JM hg with ⟨p,off,hxv,e2⟩ | ⟨oo,hxv,e2⟩
 rotate_left
 ·rw [e2] at hg
  cases oo with
  | ap i j m =>
   have hg':R.good (br (Nat.ble 1 m) (UM i j fun v=>κ v h n) (.fail "")):=hg
   obtain ⟨h1,e3⟩:=Ao hg'
   have h1:=Ap.1 h1
   have key:∃ v,UM i j (fun v=>κ v h n)=κ v h n ∧ ∀ (φ:B6) y,Lb ρ i j y->AG ρ φ v y:=by
    unfold UM
    cases hi:Nat.beq i 0 with
    | true =>
     have hi:=Nat.eq_of_beq_eq_true hi
     refine ⟨_,by rw [AQ],fun φ y hy=>?_⟩
     rcases hy with ⟨_,b,rfl⟩ | ⟨h,_⟩ | ⟨h,_⟩ | ⟨h,_⟩ | ⟨h,_⟩
     ·exact Ed b
     ·omega
     ·omega
     ·omega
     ·omega
    | false =>
     have hi0:i≠0:=fun h=>by subst h; cases hi
     rw [AO]
     cases h2f:Nat.ble i 18446744073709551615 with
     | true =>
      have h2:=Ap.1 h2f
      refine ⟨.oth (.sy .i64 (i+j)),by first | (rw [AQ,Ah]; rfl) | (rw [Ah]; rfl) | rw [Ah],fun φ y hy=>?_⟩
      rcases hy with ⟨h,_⟩ | ⟨_,_,h2,r,h3,h4⟩ | ⟨h,_⟩ | ⟨h,_⟩ | ⟨h,_⟩
      ·exact absurd h hi0
      ·simp only [AG]; exact ⟨h2,r,h3,h4⟩
      ·omega
      ·omega
      ·omega
     | false =>
      have h2:¬ i≤18446744073709551615:=fun h=>by rw [Ap.2 h] at h2f; cases h2f
      rw [AO]
      cases h3f:Nat.ble i 36893488147419103231 with
      | true =>
       have h3:=Ap.1 h3f
       rw [AQ]
       cases h4:Nat.ble (Nat.succ j) (Nat.div (Nat.sub i 18446744073709551616) 4294967296) with
       | true =>
        have h4:=Ap.1 h4
        rw [AQ]
        refine ⟨.bool (QQ i j),by cases QQ i j <;> rfl,fun φ y hy=>?_⟩
        rcases hy with ⟨h,_⟩ | ⟨_,h,_⟩ | ⟨_,_,b,rfl,hb⟩ | ⟨h,_⟩ | ⟨h,_⟩
        ·omega
        ·omega
        ·rw [hb h4]; simp only [AG]
        ·omega
        ·omega
       | false =>
        rw [AO]
        refine ⟨_,rfl,fun φ y hy=>?_⟩
        rcases hy with ⟨h,_⟩ | ⟨_,h,_⟩ | ⟨_,_,b,rfl,hb⟩ | ⟨h,_⟩ | ⟨h,_⟩
        ·omega
        ·omega
        ·exact Ed b
        ·omega
        ·omega
      | false =>
       have h3:¬ i≤36893488147419103231:=fun h=>by rw [Ap.2 h] at h3f; cases h3f
       rw [AO]
       cases h5f:Nat.ble i 73786976294838206463 with
       | true =>
        have h5:=Ap.1 h5f
        rw [AQ]
        have hg2:R.good (XM i j fun v=>κ v h n):=by
         have hg3:=hg'
         rw [e3] at hg3
         unfold UM at hg3
         rw [show Nat.beq i 0=false from hi,AO,h2f,AO,h3f,AO,h5f,AQ] at hg3
         exact hg3
        exact Tq hg2 h3 h5
       | false =>
        have h5:¬ i≤73786976294838206463:=fun h=>by rw [Ap.2 h] at h5f; cases h5f
        rw [AO]
        have hg2:R.good (XX i j fun v=>κ v h n):=by
         have hg3:=hg'
         rw [e3] at hg3
         unfold UM at hg3
         rw [show Nat.beq i 0=false from hi,AO,h2f,AO,h3f,AO,h5f,AO] at hg3
         exact hg3
        exact TG hg2 h5
   obtain ⟨v,e4,hv⟩:=key
   refine ⟨v,e1.trans (e2.trans (e3.trans e4)),fun φ a w hT g=>?_⟩
   have g1:=Am hx hT
   rw [hxv] at g1
   simp only [AG] at g1
   obtain ⟨b,q,c,e,fr,gx,c1,c2⟩:=g1
   obtain ⟨y,y1,y2⟩:=c2 0 (by omega)
   refine ⟨y,?_,hv φ y y2⟩
   have hc:=(g.glob b c e fr c1).2
   simp [execOp,ho,gx,Instr.loadAt,Instr.sureAddr,loadVar,CE ha,GY hc (show c[q]? = some y from y1)]
  | _=>exact hg.elim
 rw [e2] at hg
 obtain ⟨cs,sup,prev,hp,e3⟩:=CS hg
 rw [e3] at hg
 obtain ⟨v,hv,e4⟩:=GU hg
 refine ⟨v,e1.trans (e2.trans (e3.trans e4)),fun φ a w hT g=>?_⟩
 have g1:=Am hx hT
 rw [hxv] at g1
 obtain ⟨b,s,tot,hφ,gx⟩:=CQ g1
 obtain ⟨c,e,fr,k1,k2,k3,k4,k5⟩:=g.obj p _ b s tot hp hφ
 obtain ⟨X,hX,hr,_⟩:=k5 off v hv
 refine ⟨X,?_,hr⟩
 simp [execOp,ho,gx,Instr.loadAt,Instr.sureAddr,loadVar,CE ha,GY k1 hX]
theorem LW {ty:TypeId} {m:Nat} {x:Operand} {x':Opd} (ho:o.op = .load ty x) (hx:AY N x=some x') (ha:KY P ty=some true) (hm:Bw P ty=some m):Bo P ρ B N o (Mu m x' cf t h n) t h n:=by
 intro κ hg
 have e1:Mu m x' cf t h n κ=IR (ev x' t) fun p off=>IJ p h fun cs _ _=>BY cs off m fun y=>Eg y fun l=>κ (.agg l) h n:=by simp only [Mu,AS]
 rw [e1] at hg
 obtain ⟨p,off,hxv,e2⟩:=CW hg
 rw [e2] at hg
 obtain ⟨cs,sup,prev,hp,e3⟩:=CS hg
 rw [e3] at hg
 obtain ⟨hle,y,hyl,hya,e4⟩:=Cr hg
 obtain ⟨l,e5,hll,hla⟩:=Fn y fun l=>κ (.agg l) h n
 refine ⟨.agg l,e1.trans (e2.trans (e3.trans (e4.trans e5))),fun φ a w hT g=>?_⟩
 have g1:=Am hx hT
 rw [hxv] at g1
 obtain ⟨b,s,tot,hφ,gx⟩:=CQ g1
 obtain ⟨c,e,fr,k1,k2,k3,k4,k5⟩:=g.obj p _ b s tot hp hφ
 obtain ⟨vs,q1,q2,q3,q4⟩:=Iq (Gy k5 hyl hya)
 have hrun:=Fy (P:=P) (off:=s+off) vs k1 (fun j v hj=>by have:=q2 j v hj; rwa [←Nat.add_assoc] at this)
 rw [q1,hyl] at hrun
 refine ⟨.agg vs.toArray,?_,?_⟩
 ·simp [execOp,ho,gx,Instr.loadAt,Instr.sureAddr,loadVar,CE ha,Bh hm,hrun]
 ·simp only [AG]
  exact ⟨_,rfl,q4 l (by rw [hll]) hla,q3⟩
theorem F2 {p:K4} {off:Nat} {y:Cs} {κ:Heap->R} (hg:(Eb h p off y κ).good):∃ cs prev z,AL p h=some (.c cs false prev)∧QY cs off y z ∧
  Eb h p off y κ=κ (B5 p (G9 prev h) (some (.c z false none))):=by
 obtain ⟨cs,sup,prev,hp,e1⟩:=CS (show R.good (IJ p h _) from hg)
 have e1:Eb h p off y κ=_:=e1
 rw [e1] at hg
 obtain ⟨h2,e2⟩:=Fm hg
 subst h2
 rw [e2] at hg
 obtain ⟨z,hz,e3⟩:=R8 hg
 refine ⟨cs,prev,z,hp,hz,e1.trans (e2.trans (e3.trans ?_))⟩
 rw [Kw,Bt]
theorem EW {φ:B6} {w:World} (g:Gam ρ B h n φ w) {p:K4} {off:Nat} {cs y z:Cs} {prev:Option K4} {b s tot:Nat} (hp:AL p h=some (.c cs false prev)) (hφ:φ p=some (b,s,tot)) (hz:QY cs off y z)
  {vs:List Value} (hl:vs.length=y.len) (hv:∀ i v,y.at i=some v->∃ x,vs[i]? = some x∧AG ρ φ v x) (h1:∀ x∈vs,x.oneCell'=true) :
  ∃ w',(storeCells ⟨b,s+off,none⟩ vs).run P w = .ok () w'∧Gam ρ B (B5 p (G9 prev h) (some (.c z false none))) n φ w'∧Fr h (B5 p (G9 prev h) (some (.c z false none))) φ φ n n w w':=by
 obtain ⟨c,e,fr,k1,k2,k3,k4,k5⟩:=g.obj p _ b s tot hp hφ
 obtain ⟨z1,z2,z3,z4,z5⟩:=hz
 obtain ⟨c',q1,q2,q3,q4⟩:=Gp (P:=P) vs w b (s+off) 0 c e fr k1 (by omega) (by rw [k2]; exact k4) h1
 have hb:=(g.blk p b s tot hφ).2
 refine ⟨_,q4,g.write (o:=.c cs false prev) (o':=.c z false none) hp hφ rfl rfl ⟨c',e,fr,Dr hb,by rw [q1,k2],by rw [z2]; exact k3,k4,fun i v hi=>?_⟩,Fr.write (o:=.c cs false prev) hp hφ⟩
 by_cases ha:i<off
 ·rw [z3 i ha] at hi
  obtain ⟨x,hx,hr⟩:=k5 i v hi
  exact ⟨x,by show c'[s+i]? = some x; rw [q2 (s+i) (by omega)]; exact hx,hr⟩
 ·by_cases hb':i<off+y.len
  ·obtain ⟨j,rfl⟩:∃ j,i=off+j:=⟨i - off,by omega⟩
   rw [z4 j (by omega)] at hi
   obtain ⟨x,hx,hr⟩:=hv j v hi
   refine ⟨x,?_,hr,h1 x (List.mem_of_getElem? hx)⟩
   show c'[s+(off+j)]? = some x
   rw [←q3 j x hx]; congr 1; omega
  ·rw [z5 i (by omega)] at hi
   obtain ⟨x,hx,hr⟩:=k5 i v hi
   exact ⟨x,by show c'[s+i]? = some x; rw [q2 (s+i) (by omega)]; exact hx,hr⟩
theorem Tr {ty:TypeId} {m:Nat} {x y:Operand} {x' y':Opd} (hρ:Bq ρ) (ho:o.op = .store ty x y) (hx:AY N x=some x') (hy:AY N y=some y') (hm:Bw P ty=some m) :
  CB P ρ B N o (Rq m x' y' cf t h n) t h n:=by
 intro κ hg
 have e1:Rq m x' y' cf t h n κ=IR (ev x' t) fun p off=>DQ (ev y' t) fun l=>GJ l fun k=>br (Nat.beq k m) (Eb h p off (.l l) fun h'=>κ Cf h' n) (.fail ""):=by simp only [Rq,AS]
 rw [e1] at hg
 obtain ⟨p,off,hxv,e2⟩:=CW hg
 rw [e2] at hg
 obtain ⟨hc,e3⟩:=Fb hg
 rw [e3,Dj] at hg
 obtain ⟨h4,e4⟩:=Ao hg
 have h4:=Nat.eq_of_beq_eq_true h4
 rw [e4] at hg
 obtain ⟨cs,prev,z,hp,hz,e5⟩:=F2 hg
 refine ⟨Cf,_,n,e1.trans (e2.trans (e3.trans ((Dj _ _).trans (e4.trans e5)))),.skip fun φ a w hT g=>?_⟩
 have g1:=Am hx hT
 rw [hxv] at g1
 obtain ⟨b,s,tot,hφ,gx⟩:=CQ g1
 obtain ⟨hl,h1⟩:=GX hρ hc (Am hy hT)
 have hlen:=Bf hl
 obtain ⟨w',q1,q2,q3⟩:=EW (P:=P) g hp hφ hz (vs:=(a.eval y).cells.toList) (by rw [hlen]; rfl) (fun i v hi=>(Cc.1 hl).2 i v hi) h1
 refine ⟨φ,w',?_,q3,q2⟩
 have hsz:(a.eval y).cells.size=m:=by rw [←h4,←hlen]; simp
 simp [execOp,ho,gx,Instr.storeAt,Instr.sureAddr,storeVar,Bh hm,hsz,q1]
theorem Mr {ty e:TypeId} {m esz:Nat} {x:Operand} {lo hi:Option Operand} {x':Opd} {lo' hi':Option Opd} (ho:o.op = .slice ty x lo hi none) (hx:AY N x=some x') (hlo:Fx N lo=some lo') (hhi:Fx N hi=some hi')
  (ht:P.underlying ty=some (.array m e)) (he:Bw P e=some esz):Bo P ρ B N o (Io m esz x' lo' hi' cf t h n) t h n:=by
 intro κ hg
 have e1:Io m esz x' lo' hi' cf t h n κ=IR (ev x' t) fun p off=>IJ p h fun cs _ _=>br (Nat.ble (Nat.add off (Nat.mul m esz)) cs.len) (Cp hi' t m fun b=>Cp lo' t 0 fun a=>br (Nat.ble a b) (br (Nat.ble b m) (κ (.sl p (Nat.add off (Nat.mul a esz)) (Nat.sub b a) (Nat.sub m a) true esz) h n) (.fail "")) (.fail "")) (.fail ""):=by
  simp only [Io,AS,Ah,U2]
 rw [e1] at hg
 obtain ⟨p,off,hxv,e2⟩:=CW hg
 rw [e2] at hg
 obtain ⟨cs,sup,prev,hp,e3⟩:=CS hg
 rw [e3] at hg
 obtain ⟨h4,e4⟩:=Ao hg
 have h4:=Ap.1 h4
 simp only [Nat.add_eq,Nat.mul_eq] at h4
 rw [e4] at hg
 obtain ⟨b,e5,hb⟩:=Cb (ρ:=ρ) hhi hg
 rw [e5] at hg
 obtain ⟨a,e6,ha⟩:=Cb (ρ:=ρ) hlo hg
 rw [e6] at hg
 obtain ⟨h7,e7⟩:=Ao hg
 rw [e7] at hg
 obtain ⟨h8,e8⟩:=Ao hg
 have h7:=Ap.1 h7; have h8:=Ap.1 h8
 refine ⟨_,e1.trans (e2.trans (e3.trans (e4.trans (e5.trans (e6.trans (e7.trans e8)))))),fun φ ac w hT g=>?_⟩
 have g1:=Am hx hT
 rw [hxv] at g1
 obtain ⟨bk,s,tot,hφ,gx⟩:=CQ g1
 obtain ⟨c,e',fr,k1,k2,k3,k4,k5⟩:=g.obj p _ bk s tot hp hφ
 refine ⟨.slice (if m=a then some ⟨bk,s+off,none⟩ else some ⟨bk,s+off+a*esz,none⟩) (b - a) (m - a),?_,?_⟩
 ·have hsw:(if m=a then some (⟨bk,s+off,none⟩:Addr) else some ⟨bk,s+off+a*esz,none⟩)=some (if m=a then ⟨bk,s+off,none⟩ else ⟨bk,s+off+a*esz,none⟩):=by split <;> rfl
  rw [hsw]
  simp only [execOp,ho,gx,Instr.sliceAt,Instr.sureAddr,Sem.run_bind,run_underlying ht,Result.andThen_ok,Option.map_none,Sem.run_pure]
  simp [DM (ha φ ac hT) (hb φ ac hT) h7 h8,Bh he,CT]
 ·simp only [AG]
  have hmul:m - a=0∨a*esz+(m - a)*esz=m*esz:=by
   rcases Nat.lt_or_ge a m with h' | h'
   ·right; rw [←Nat.add_mul]; congr 1; omega
   ·left; omega
  by_cases hca:m=a
  ·rw [if_pos hca]
   refine ⟨bk,s,tot,s+off,m - a,hφ,rfl,by show b - a≤m - a; omega,Nat.le_refl _,fun _=>rfl,fun h0=>by omega⟩
  ·rw [if_neg hca]
   refine ⟨bk,s,tot,s+off+a*esz,m - a,hφ,rfl,by show b - a≤m - a; omega,Nat.le_refl _,fun _=>rfl,fun h0=>⟨by show s+off+a*esz=s+(off+a*esz); omega,?_⟩⟩
   rcases hmul with h' | h'
   ·omega
   ·omega
theorem HJ {xs:List V} {κ:Nat->Nat->R} {why:String} (hg:(CM xs κ (.fail why)).good):∃ m c,CM xs κ (.fail why)=κ m c∧(Cs.b m c).len=xs.length∧(∀ i,(Cs.b m c).at i=xs[i]?)∧c<256 ^ m:=by
 rcases Kc xs κ (.fail why) with e | e
 ·rw [e] at hg; exact hg.elim
 ·exact e
theorem Nf {φ:B6} {m c:Nat} {vs:List Value} (hl:vs.length=m) (hv:∀ i v,(Cs.b m c).at i=some v->∃ x,vs[i]? = some x∧AG ρ φ v x) :
  ∃ bs:List UInt8,vs=bs.map (fun b=>Value.int .u8 b.toNat)∧bs.length=m∧B7 bs=c % 256 ^ m:=by
 induction m generalizing c vs with
 | zero =>
  have:vs=[]:=List.eq_nil_of_length_eq_zero hl
  subst this
  exact ⟨[],rfl,rfl,by simp [B7,Nat.mod_one]⟩
 | succ m ih =>
  cases vs with
  | nil=>simp at hl
  | cons v vs =>
   obtain ⟨x,hx,hr⟩:=hv 0 _ (Cs.b_pos (by omega))
   simp at hx; subst hx
   obtain ⟨hlt,rfl⟩:=BQ hr
   obtain ⟨bs,rfl,hbl,hbe⟩:=ih (c:=c / 256) (vs:=vs) (by simpa using hl) (fun i u hu=>by
    have hi:=Cs.lt_of_at hu
    simp only [Cs.len] at hi
    rw [Cs.b_pos hi] at hu
    have:=hv (i+1) u (by rw [Cs.b_pos (by omega),Nat.pow_succ,Nat.mul_comm,←Nat.div_div_eq_div_mul]; exact hu)
    simpa using this)
   have hc:c / 256 ^ 0 % 256=c % 256:=by simp
   rw [hc] at hlt ⊢
   refine ⟨UInt8.ofNat (c % 256)::bs,?_,by simp [hbl],?_⟩
   ·have:(UInt8.ofNat (c % 256)).toNat=c % 256:=by simp
    simp only [List.map_cons,List.cons.injEq,and_true,this]
    rw [AA (by simp [Hk]; omega)]
   ·have:(UInt8.ofNat (c % 256)).toNat=c % 256:=by simp
    simp only [B7,this,hbe]
    rw [Nat.pow_succ,Nat.mul_comm (256 ^ m) 256,Nat.mod_mul]
theorem run_bytesToString {a:Addr} {len cap:Nat} {w:World} (bs:List UInt8) (hl:bs.length=len) (h:(loadCells a len).run P w = .ok (bs.map (fun b=>Value.int .u8 b.toNat)).toArray w) :
  (Conv.bytesToString (.slice (some a) len cap)).run P w = .ok (.string ⟨bs.toArray⟩) w:=by
 have h':=Go.run_bytesToString w a len cap (bs.map fun b=>(b.toNat:Int)) (by rw [List.map_map]; exact h)
 rw [h']
 have key:∀ (bs:List UInt8) (s:ByteArray),(bs.map fun b=>(b.toNat:Int)).foldl (fun r n=>r.push (UInt8.ofNat n.toNat)) s=⟨s.data++bs.toArray⟩:=by
  intro bs
  induction bs with
  | nil=>intro s; simp
  | cons b bs ih =>
   intro s
   rw [List.map_cons,List.foldl_cons,ih]
   simp [ByteArray.push]
 rw [key]; simp
theorem LF {src dst e:TypeId} {x:Operand} {x':Opd} (ho:o.op = .convert src dst x) (hx:AY N x=some x') (hs:P.underlying src=some (.slice e)) (hd:P.underlying dst=some .string) (he:P.underlying e=some (.int .u8)) :
  Bo P ρ B N o (J7 x' cf t h n) t h n:=by
 intro κ hg
 have e1:J7 x' cf t h n κ=CX (ev x' t) (κ (.str 0 0) h n) (fun p off len cap ex esz=>br (Nat.beq esz 1) (IJ p h fun cs _ _=>BY cs off len fun y=>Eg y fun l=>CM l (fun m c=>κ (.str m c) h n) (.fail "")) (.fail "")):=by
  simp only [J7,AS]
 rw [e1] at hg
 rcases CC hg with ⟨hxv,e2⟩ | ⟨p,off,len,cap,ex,esz,hxv,e2⟩
 ·refine ⟨_,e1.trans e2,fun φ a w hT g=>?_⟩
  have g1:=Am hx hT
  rw [hxv] at g1
  have gx:=BW g1
  refine ⟨.string .empty,?_,QH .empty ρ φ⟩
  simp [execOp,ho,gx,C7,convert,run_underlying hs,run_underlying hd,run_underlying he,Conv.bytesToString]
 ·rw [e2] at hg
  obtain ⟨h3,e3⟩:=Ao hg
  have h3:=Nat.eq_of_beq_eq_true h3
  subst h3
  rw [e3] at hg
  obtain ⟨cs,sup,prev,hp,e4⟩:=CS hg
  rw [e4] at hg
  obtain ⟨hle,y,hyl,hya,e5⟩:=Cr hg
  rw [e5] at hg
  obtain ⟨l,e6,hll,hla⟩:=Fn y fun l=>CM l (fun m c=>κ (.str m c) h n) (.fail "")
  rw [e6] at hg
  obtain ⟨m,c,e7,hml,hma,hcan⟩:=HJ hg
  ·refine ⟨_,e1.trans (e2.trans (e3.trans (e4.trans (e5.trans (e6.trans e7))))),fun φ a w hT g=>?_⟩
   have g1:=Am hx hT
   rw [hxv] at g1
   obtain ⟨b,s,tot,q,cap',hφ,gx,c1,c2,c3,c4⟩:=CJ g1
   obtain ⟨cc,e',fr,k1,k2,k3,k4,k5⟩:=g.obj p _ b s tot hp hφ
   obtain ⟨vs,q1,q2,q3,q4⟩:=Iq (Gy k5 hyl hya)
   have hm:m=len:=by simp only [Cs.len] at hml; rw [hml,hll,hyl]
   subst hm
   obtain ⟨bs,hbs,hbl,hbe⟩:=Nf (ρ:=ρ) (φ:=φ) (m:=m) (c:=c) (vs:=vs) (by rw [q1,hyl]) (fun i v hv=>by
    rw [hma i,hla i] at hv
    exact (Cc.1 (q4 l hll hla)).2 i v (by rw [hla i]; exact hv))
   rw [Nat.mod_eq_of_lt hcan] at hbe
   refine ⟨.string ⟨bs.toArray⟩,?_,?_⟩
   ·have hload:(loadCells ⟨b,q,none⟩ m).run P w = .ok (bs.map (fun b=>Value.int .u8 b.toNat)).toArray w:=by
     rcases Nat.eq_zero_or_pos m with h0 | h0
     ·subst h0
      have:bs=[]:=List.eq_nil_of_length_eq_zero hbl
      subst this; rfl
     ·obtain ⟨c5,c6⟩:=c4 (by omega)
      have hrun:=Fy (P:=P) (off:=s+off) vs k1 (fun j v hj=>by have:=q2 j v hj; rwa [←Nat.add_assoc] at this)
      rw [q1,hyl,hbs] at hrun
      rw [c5]; exact hrun
    simp only [execOp,ho,gx,convert,Sem.run_bind,run_underlying hs,run_underlying hd,run_underlying he,Result.andThen_ok,run_bytesToString bs hbl hload,Sem.run_pure]
   ·simp only [AG]
    exact ⟨⟨bs.toArray⟩,rfl,by simp [ByteArray.size,hbl],by simpa using hbe⟩
end
end Go.Ev

namespace Go.Ev
set_option linter.unusedVariables false
section
variable {P:Program} {ρ:Env} {B N:Nat} {o:Oper} {cf:CF} {t:Regs} {h:Heap} {n:K4}
theorem F8 {φ:B6} {es:List (V×V)}:∀ {l:List MapEntry},FW ρ φ es l->l.length=es.length:=by
 induction es with
 | nil=>intro l h; have h:l=[]:=h; subst h; rfl
 | cons e es ih=>rintro l ⟨y,ys,rfl,_,_,h⟩; simp [ih h]
theorem JW {φ:B6} {es:List (V×V)}:∀ {l:List MapEntry} {i:Nat} {e:V×V},FW ρ φ es l->es[i]? = some e->∃ m,l[i]? = some m∧AG ρ φ e.1 m.key∧AG ρ φ e.2 m.val:=by
 induction es with
 | nil=>intro l i e h he; simp at he
 | cons x es ih =>
  rintro l i e ⟨y,ys,rfl,h1,h2,h⟩ he
  cases i with
  | zero=>simp at he; subst he; exact ⟨y,rfl,h1,h2⟩
  | succ i=>simpa using ih h (by simpa using he)
theorem S7 {φ:B6} {es:List (V×V)}:∀ {l:List MapEntry} {i:Nat} {e:V×V} {m:MapEntry},FW ρ φ es l->AG ρ φ e.1 m.key->AG ρ φ e.2 m.val->FW ρ φ (es.set i e) (l.set i m):=by
 induction es with
 | nil=>intro l i e m h _ _; have h:l=[]:=h; subst h; rfl
 | cons x es ih =>
  rintro l i e m ⟨y,ys,rfl,h1,h2,h⟩ k1 k2
  cases i with
  | zero=>exact ⟨m,ys,rfl,k1,k2,h⟩
  | succ i=>exact ⟨y,ys.set i m,rfl,h1,h2,ih h k1 k2⟩
theorem Rx {φ:B6} {es:List (V×V)}:∀ {l:List MapEntry} {e:V×V} {m:MapEntry},FW ρ φ es l->AG ρ φ e.1 m.key->AG ρ φ e.2 m.val->FW ρ φ (es++[e]) (l++[m]):=by
 induction es with
 | nil=>intro l e m h k1 k2; have h:l=[]:=h; subst h; exact ⟨m,[],rfl,k1,k2,rfl⟩
 | cons x es ih=>rintro l e m ⟨y,ys,rfl,h1,h2,h⟩ k1 k2; exact ⟨y,ys++[m],rfl,h1,h2,ih h k1 k2⟩
theorem Pr {φ:B6} {es:List (V×V)}:∀ {l:List MapEntry} {i:Nat},FW ρ φ es l->FW ρ φ (es.eraseIdx i) (l.eraseIdx i):=by
 induction es with
 | nil=>intro l i h; have h:l=[]:=h; subst h; rfl
 | cons x es ih =>
  rintro l i ⟨y,ys,rfl,h1,h2,h⟩
  cases i with
  | zero=>exact h
  | succ i=>exact ⟨y,ys.eraseIdx i,rfl,h1,h2,ih h⟩
def US (pl:Plan) (x:V):Prop :=
 match pl with
 | .sc .i=>∃ k m,x = .int k m
 | .sc .s=>∃ m c,x = .str m c
 | .sc .b=>∃ q,x = .bool q
 | .ks l=>∃ a,x = .agg a∧a.length=l.length
 | _=>False
theorem Pn (ks:List Sc):∀ {a:List V} {κ:R},(NS ks a κ).good->a.length=ks.length∧NS ks a κ=κ:=by
 induction ks with
 | nil=>intro a κ h; cases a with
  | nil=>exact ⟨rfl,rfl⟩
  | cons=>exact h.elim
 | cons k ks ih=>intro a κ h; cases a with
  | nil=>exact h.elim
  | cons u a=>have:=ih (a:=a) (κ:=κ) h; exact ⟨by simp [this.1],this.2⟩
theorem IC {pl:Plan} {v:V} {κ:R} (h:(Ke pl v κ).good):US pl v∧Ke pl v κ=κ:=by
 cases pl with
 | sc k =>
  cases k with
  | i=>obtain ⟨k,m,rfl,e⟩:=Cd (show R.good (FP v fun _ _=>κ) from h); exact ⟨⟨k,m,rfl⟩,rfl⟩
  | s=>obtain ⟨k,m,rfl,e⟩:=BX (show R.good (Bl v fun _ _=>κ) from h); exact ⟨⟨k,m,rfl⟩,rfl⟩
  | b=>obtain ⟨q,rfl,e⟩:=EM (show R.good (P3 v fun _=>κ) from h); exact ⟨⟨q,rfl⟩,rfl⟩
 | st fs=>exact h.elim
 | ks l =>
  obtain ⟨a,rfl,e⟩:=Cy (show R.good (asAgg v fun a=>NS l a κ) from h)
  obtain ⟨h1,h2⟩:=Pn l (show R.good (NS l a κ) from h)
  exact ⟨⟨a,rfl,h1⟩,h2⟩
 | rf w=>exact h.elim
theorem Dy {kt:TypeId} {pl:Plan} (hp:H7 P kt=some pl) {b:Bool} {d:Nat} {K:Value} (hK:(∃ k n,K = .int k n)∨(∃ s,K = .string s)∨(∃ q,K = .bool q) ∨ ∃ cs:Array Value,K = .agg cs ∧ ∀ l,pl = .ks l->cs.size=l.length) (w:World)
  (hsh:(∃ fs,P.underlying kt=some (.struct fs))->∃ cs,K = .agg cs):(Instr.checkKey b (d+2) kt K).run P w = .ok () w:=by
 have leaf:∀ (e:Nat) (t:TypeId) (X:Value) (k:Sc),P0 P t=some k->(Instr.checkKey b (e+1) t X).run P w = .ok () w:=fun e t X k hk=>by
  unfold P0 at hk
  split at hk
  ·rename_i hu; cases X <;> simp [Instr.checkKey,run_underlying hu]
  ·rename_i hu; cases X <;> simp [Instr.checkKey,run_underlying hu]
  ·rename_i hu; cases X <;> simp [Instr.checkKey,run_underlying hu]
  ·cases hk
 unfold H7 at hp
 split at hp
 ·rename_i fs hu
  split at hp
  ·cases hp
  ·split at hp
   ·rename_i offs hoffs
    split at hp
    ·rename_i hr
     cases hp
     obtain ⟨cs,rfl⟩:=hsh ⟨fs,hu⟩
     have hcs:cs.size=offs.length:=by
      rcases hK with ⟨_,_,h⟩ | ⟨_,h⟩ | ⟨_,h⟩ | ⟨cs',h,hl⟩
      ·cases h
      ·cases h
      ·cases h
      ·cases h; simpa using hl _ rfl
     rw [Instr.checkKey]
     simp only [Sem.run_bind,run_underlying hu,Result.andThen_ok]
     rw [←Array.forIn_toList]
     have key:∀ (fs:List Field) (offs':List (Nat×Sc)),GI P fs=some offs'->(∀ p∈offs',p.1<cs.size)->(forIn (m:=Sem) fs PUnit.unit (fun f r=>if f.name ≠ "_" then do
        Instr.checkKey b (d+1) f.type (←part f.type cs f.offset)
        pure (ForInStep.yield PUnit.unit) else pure (ForInStep.yield PUnit.unit))).run P w = .ok PUnit.unit w:=by
      intro fs
      induction fs with
      | nil=>intro offs' _ _; simp
      | cons f fs ih =>
       intro offs' ho hlt
       simp only [GI] at ho
       split at ho
       ·rename_i hn
        split at ho
        ·rename_i k r hk hr
         cases ho
         have hof:f.offset<cs.size:=hlt _ (List.mem_cons_self ..)
         have hpart:=Gk (w:=w) hk (Array.getElem?_eq_getElem hof)
         simp only [List.forIn_cons,hn,ne_eq,not_false_eq_true,if_true,Sem.run_bind,hpart,Result.andThen_ok,leaf d _ _ _ hk,Sem.run_pure]
         exact ih _ hr fun p hp=>hlt p (List.mem_cons_of_mem _ hp)
        ·cases ho
       ·cases ho
     have:=key fs.toList offs hoffs (fun p hp=>by
      obtain ⟨i,hi,rfl⟩:=List.getElem_of_mem hp
      have h1:(offs.map (·.1))[i]? = some offs[i].1:=by rw [List.getElem?_map,List.getElem?_eq_getElem hi]; rfl
      rw [hr,List.getElem?_range hi] at h1
      simp at h1
      omega)
     simp only [ne_eq,ite_not] at this ⊢
     rw [this]; rfl
    ·cases hp
   ·cases hp
 ·cases hk:P0 P kt with
  | none=>rw [hk] at hp; cases hp
  | some k=>exact leaf (d+1) kt K k hk
theorem Fu {kt:TypeId} {pl:Plan} (hp:H7 P kt=some pl) {x:V} {φ:B6} {K:Value} (hK:AG ρ φ x K) (hs:US pl x) :
  ((∃ k n,K = .int k n)∨(∃ s,K = .string s)∨(∃ q,K = .bool q) ∨ ∃ cs:Array Value,K = .agg cs ∧ ∀ l,pl = .ks l->cs.size=l.length) ∧
  ((∃ fs,P.underlying kt=some (.struct fs))->∃ cs,K = .agg cs):=by
 unfold H7 at hp
 split at hp
 ·rename_i fs hu
  split at hp
  ·cases hp
  ·split at hp
   ·split at hp
    ·cases hp
     obtain ⟨l,rfl,hl⟩:=hs
     obtain ⟨cs,rfl,hcs,_⟩:=E3 hK
     have:=Bf hcs
     exact ⟨.inr (.inr (.inr ⟨cs,rfl,fun l' h=>by cases h; simp at this hl ⊢; omega⟩)),fun _=>⟨cs,rfl⟩⟩
    ·cases hp
   ·cases hp
 ·rename_i hns
  cases hk:P0 P kt with
  | none=>rw [hk] at hp; cases hp
  | some k =>
   rw [hk] at hp; cases hp
   refine ⟨?_,fun ⟨fs,hu⟩=>absurd hu (by intro hu; exact hns fs hu)⟩
   cases k with
   | i=>obtain ⟨kd,m,rfl⟩:=hs; exact .inl ⟨_,_,(BQ hK).2⟩
   | s=>obtain ⟨m,c,rfl⟩:=hs; obtain ⟨s,rfl,_⟩:=Cg hK; exact .inr (.inl ⟨s,rfl⟩)
   | b=>obtain ⟨q,rfl⟩:=hs; exact .inr (.inr (.inl ⟨q,Du hK⟩))
theorem OH {ty kt e:TypeId} {pl:Plan} {z:V} {zv:Value} {ok:Bool} {m k:Operand} {m' k':Opd} (ho:o.op = .lookup ty m k ok) (hm:AY N m=some m') (hk:AY N k=some k')
  (ht:P.underlying ty=some (.map kt e)) (hp:H7 P kt=some pl) (hzv:(P.info? e).bind (·.zero)=some zv) (hz:IF zv=some z):Bo P ρ B N o (S1 pl z ok m' k' cf t h n) t h n:=by
 intro κ hg
 have e1:S1 pl z ok m' k' cf t h n κ=Ke pl (ev k' t) (DC (ev m' t) (br ok (κ (.tup [z,.bool false]) h n) (κ z h n)) (fun p=>P1 p h fun es _ _=>He pl (ev k' t) es (fun r=>br ok (κ (.tup [r,.bool true]) h n) (κ r h n)) (br ok (κ (.tup [z,.bool false]) h n) (κ z h n)))):=by
  simp only [S1,AS]
 rw [e1] at hg
 obtain ⟨hko,e2⟩:=IC hg
 rw [e2] at hg
 have zr:∀ φ,AG ρ φ z zv:=fun φ=>KT hz φ
 -- what is told,of a value and whether it was there
 have tell:∀ (v:V) (q:Bool),br ok (κ (.tup [v,.bool q]) h n) (κ v h n)=κ (if ok then .tup [v,.bool q] else v) h n:=fun v q=>by cases ok <;> rfl
 have told:∀ (φ:B6) (v:V) (q:Bool) (X:Value),AG ρ φ v X->AG ρ φ (if ok then .tup [v,.bool q] else v) (if ok then .tuple #[X,.bool q] else X):=fun φ v q X hX=>by
  cases ok with
  | true=>simp only [if_true,AG,Bu]; exact ⟨_,rfl,_,_,rfl,hX,_,_,rfl,rfl,rfl⟩
  | false=>exact hX
 rcases Dn hg with ⟨hmv,e3⟩ | ⟨p,hmv,e3⟩
 ·refine ⟨if ok then .tup [z,.bool false] else z,e1.trans (e2.trans (e3.trans (tell z false))),fun φ a w hT g=>⟨if ok then .tuple #[zv,.bool false] else zv,?_,told φ z false zv (zr φ)⟩⟩
  have g1:=Am hm hT
  rw [hmv] at g1
  have gx:=BW g1
  have g2:=Am hk hT
  obtain ⟨s1,s2⟩:=Fu hp g2 hko
  have hck:=Dy (P:=P) (b:=true) (d:=9998) hp s1 w s2
  have hfk:=EY (P:=P) (w:=w) hp g2 (es:=[]) (ents:=[]) (r:=none) rfl rfl
  simp only [execOp,ho,gx,C7,Instr.lookup,Sem.run_bind,run_underlying ht,Result.andThen_ok,Sem.run_pure]
  simp [hck,hfk.1,Da hzv]
 ·rw [e3] at hg
  obtain ⟨es,bs,clk,hpm,e4⟩:=E9 hg
  rw [e4] at hg
  obtain ⟨r,hf,hr⟩:=JT hp hg
  have key:∀ φ a w,TR ρ N φ t a->Gam ρ B h n φ w->∃ ents clk b,a.eval m = .map (some b)∧w.heap[b]? = some (.map ents clk)∧FW ρ φ es ents.toList ∧
    (Instr.checkKey ents.isEmpty 10000 kt (a.eval k)).run P w = .ok () w∧(Instr.findKey kt (a.eval k) ents.toList).run P w = .ok (r.bind fun i=>(ents.toList[i]?).map fun e=>(i,e.val)) w:=fun φ a w hT g=>by
   have g1:=Am hm hT
   rw [hmv] at g1
   obtain ⟨b,s,tot,hφ,gx⟩:=F9 g1
   obtain ⟨ents,k1,k2,_⟩:=g.obj p _ b s tot hpm hφ
   have g2:=Am hk hT
   obtain ⟨s1,s2⟩:=Fu hp g2 hko
   exact ⟨ents,clk,b,gx,k1,k2,Dy (d:=9998) hp s1 w s2,(EY hp g2 hf k2).1⟩
  cases r with
  | none =>
   refine ⟨if ok then .tup [z,.bool false] else z,e1.trans (e2.trans (e3.trans (e4.trans (Eq.trans hr (tell z false))))),fun φ a w hT g=>⟨if ok then .tuple #[zv,.bool false] else zv,?_,told φ z false zv (zr φ)⟩⟩
   obtain ⟨ents,clk,b,gx,k1,k2,hck,hfk⟩:=key φ a w hT g
   have hgo:(getObj b).run P w = .ok (.map ents clk) w:=by simp [getObj,Sem.run,k1]
   simp only [execOp,ho,gx,Instr.lookup,Sem.run_bind,run_underlying ht,Result.andThen_ok,Sem.run_pure,hgo,hck,hfk]
   simp [Da hzv]
  | some i =>
   obtain ⟨ee,hee,hr⟩:=hr
   refine ⟨if ok then .tup [ee.2,.bool true] else ee.2,e1.trans (e2.trans (e3.trans (e4.trans (Eq.trans hr (tell ee.2 true))))),fun φ a w hT g=>?_⟩
   obtain ⟨ents,clk,b,gx,k1,k2,hck,hfk⟩:=key φ a w hT g
   obtain ⟨mm,hmm,_,hval⟩:=JW k2 hee
   refine ⟨if ok then .tuple #[mm.val,.bool true] else mm.val,?_,told φ ee.2 true mm.val hval⟩
   have hgo:(getObj b).run P w = .ok (.map ents clk) w:=by simp [getObj,Sem.run,k1]
   have hmm':ents[i]? = some mm:=by simpa using hmm
   simp only [execOp,ho,gx,Instr.lookup,Sem.run_bind,run_underlying ht,Result.andThen_ok,Sem.run_pure,hgo,hck,hfk]
   simp [hmm']
theorem Ij {α β:Type} (f:α->β):∀ (l:List α) (i:Nat),(l.eraseIdx i).map f=(l.map f).eraseIdx i
 | [],_=>rfl
 | _::_,0=>rfl
 | x::l,i+1=>by simp [Ij f l i]
theorem Ka {b:Nat} {O O':Obj} {w:World} (h1:w.heap[b]? = some O) (h2:∀ c e f,O ≠ .cells c e f):(setObj b O').run P w = .ok () (CR w b O'):=by
 simp only [setObj,Sem.run,h1]
 cases O with
 | cells c e f=>exact absurd rfl (h2 c e f)
 | _=>rfl
theorem IV {φ:B6} {w:World} (g:Gam ρ B h n φ w) {p:K4} {es es':List (V×V)} {bs bs':List Nat} {clk0:Nat} {b s tot:Nat} {ents:Array MapEntry} {clk:Nat} (hp:AL p h=some (.m es bs clk0)) (hφ:φ p=some (b,s,tot)) (hok:FW ρ φ es' ents.toList) (hbs:ents.toList.map (·.born)=bs') :
  Gam ρ B (B5 p h (some (.m es' bs' clk))) n φ (CR w b (.map ents clk))∧Fr h (B5 p h (some (.m es' bs' clk))) φ φ n n w (CR w b (.map ents clk)):=by
 have hb:=(g.blk p b s tot hφ).2
 exact ⟨g.write (o:=.m es bs clk0) (o':=.m es' bs' clk) hp hφ rfl rfl ⟨ents,Dr hb,hok,hbs⟩,Fr.write (o:=.m es bs clk0) hp hφ⟩
theorem Od {ty kt e:TypeId} {pl:Plan} {m k v:Operand} {m' k' v':Opd} (ho:o.op = .mapUpdate ty m k v∨o.op = .insert ty m k v) (hm:AY N m=some m') (hk:AY N k=some k') (hv:AY N v=some v')
  (ht:P.underlying ty=some (.map kt e)) (hp:H7 P kt=some pl):CB P ρ B N o (S3 pl m' k' v' cf t h n) t h n:=by
 intro κ hg
 have e1:S3 pl m' k' v' cf t h n κ=Ke pl (ev k' t) (DC (ev m' t) (.fail "") (fun p=>P1 p h fun es bs c=>Hv pl (ev k' t) (ev v' t) es fun es=>κ Cf (B5 p h (some (.m es (if es.length=bs.length then bs else bs++[c]) (if es.length=bs.length then c else c+1)))) n)):=by
  simp only [S3,AS,Bt,Vo]
 rw [e1] at hg
 obtain ⟨hko,e2⟩:=IC hg
 rw [e2] at hg
 rcases Dn hg with ⟨hmv,e3⟩ | ⟨p,hmv,e3⟩
 ·rw [e3] at hg; exact hg.elim
 rw [e3] at hg
 obtain ⟨es,bs,clk,hpm,e4⟩:=E9 hg
 rw [e4] at hg
 obtain ⟨r,hf,e5⟩:=Ls hp hg
 refine ⟨Cf,_,n,e1.trans (e2.trans (e3.trans (e4.trans e5))),.skip fun φ a w hT g=>?_⟩
 have g1:=Am hm hT
 rw [hmv] at g1
 obtain ⟨b,s,tot,hφ,gx⟩:=F9 g1
 obtain ⟨ents,k1,k2,k3⟩:=g.obj p _ b s tot hpm hφ
 have hlen:es.length=bs.length:=by rw [←F8 k2,←k3,List.length_map]
 have g2:=Am hk hT
 have g3:=Am hv hT
 obtain ⟨s1,s2⟩:=Fu hp g2 hko
 have hck:=Dy (P:=P) (b:=false) (d:=9998) hp s1 w s2
 obtain ⟨hfk,hsb⟩:=EY (P:=P) (w:=w) hp g2 hf k2
 have hgo:(getObj b).run P w = .ok (.map ents clk) w:=by simp [getObj,Sem.run,k1]
 have hso:∀ O',(setObj b O').run P w = .ok () (CR w b O'):=fun O'=>Ka k1 (by simp)
 have fin:∀ (es':List (V×V)) (ents':Array MapEntry) (bs':List Nat) (clk':Nat),FW ρ φ es' ents'.toList->ents'.toList.map (·.born)=bs' →
   (Instr.mapUpdate ty (.map (some b)) (a.eval k) (a.eval v)).run P w = .ok () (CR w b (.map ents' clk')) →
   ∃ φ' w',(execOp a.eval o).run P w = .ok .skip w'∧Fr h (B5 p h (some (.m es' bs' clk'))) φ φ' n n w w' ∧
    Gam ρ B (B5 p h (some (.m es' bs' clk'))) n φ' w':=fun es' ents' bs' clk' hok hbs hrun=>by
  obtain ⟨q1,q2⟩:=IV (clk:=clk') g hpm hφ hok hbs
  refine ⟨φ,_,?_,q2,q1⟩
  rcases ho with ho | ho <;> simp [execOp,ho,gx,hrun]
 cases r with
 | none =>
  show ∃ φ' w',_∧Fr h (B5 p h (some (.m (es++[(ev k' t,ev v' t)]) (if (es++[(ev k' t,ev v' t)]).length=bs.length then bs else bs++[clk]) (if (es++[(ev k' t,ev v' t)]).length=bs.length then clk else clk+1)))) φ φ' n n w w'∧_
  have hne:(es++[(ev k' t,ev v' t)]).length≠bs.length:=by simp; omega
  rw [if_neg hne,if_neg hne]
  refine fin _ (ents.push { key:=a.eval k,val:=a.eval v,born:=clk }) _ (clk+1) ?_ ?_ ?_
  ·rw [Array.toList_push]; exact Rx k2 g2 g3
  ·rw [Array.toList_push,List.map_append,k3]; rfl
  ·simp only [Instr.mapUpdate,Sem.run_bind,run_underlying ht,Result.andThen_ok,hgo,hck,hfk]
   simp [hso]
 | some i =>
  obtain ⟨mm,hmm,hsame⟩:=hsb i rfl
  show ∃ φ' w',_∧Fr h (B5 p h (some (.m (es.set i (ev k' t,ev v' t)) (if (es.set i (ev k' t,ev v' t)).length=bs.length then bs else bs++[clk]) (if (es.set i (ev k' t,ev v' t)).length=bs.length then clk else clk+1)))) φ φ' n n w w'∧_
  have heq:(es.set i (ev k' t,ev v' t)).length=bs.length:=by rw [List.length_set]; exact hlen
  rw [if_pos heq,if_pos heq]
  have hset:(ents.modify i fun e=>{ e with key:=a.eval k,val:=a.eval v }).toList=ents.toList.set i { mm with key:=a.eval k,val:=a.eval v }:=by
   have hi:i<ents.toList.length:=by
    rcases Nat.lt_or_ge i ents.toList.length with h' | h'
    ·exact h'
    ·rw [List.getElem?_eq_none h'] at hmm; cases hmm
   apply List.ext_getElem?
   intro j
   rw [Array.getElem?_toList,Array.getElem?_modify,List.getElem?_set]
   by_cases hj:i=j
   ·subst hj
    have:ents[i]? = some mm:=by simpa using hmm
    simp [this]; simpa using hi
   ·simp [hj]
  refine fin _ (ents.modify i fun e=>{ e with key:=a.eval k,val:=a.eval v }) _ clk ?_ ?_ ?_
  ·rw [hset]; exact S7 k2 g2 g3
  ·rw [hset,←k3,List.map_set]
   have hmb:(ents.toList.map (·.born))[i]? = some mm.born:=by rw [List.getElem?_map,hmm]; rfl
   apply List.ext_getElem?
   intro j
   rw [List.getElem?_set]
   by_cases hj:i=j
   ·subst hj
    rw [if_pos rfl,hmb]
    have hi:i<(ents.toList.map (·.born)).length:=(List.getElem?_eq_some_iff.1 hmb).1
    rw [if_pos hi]
   ·rw [if_neg hj]
  ·have hmm':ents[i]? = some mm:=by simpa using hmm
   simp only [Instr.mapUpdate,Sem.run_bind,run_underlying ht,Result.andThen_ok,hgo,hck,hfk]
   simp [hmm',Instr.keyThatStays,hsame,hso]
theorem Rg {ct:Call} {ty kt e:TypeId} {pl:Plan} {m k:Operand} {m' k':Opd} {ts:List TypeId} (ho:o.op = .call ct) (hb:ct.callee = .builtin .delete) (hts:ct.argTypes.toList=ty::ts) (hargs:ct.args.toList=[m,k])
  (hm:AY N m=some m') (hk:AY N k=some k') (ht:P.underlying ty=some (.map kt e)) (hp:H7 P kt=some pl):CB P ρ B N o (MJ pl m' k' cf t h n) t h n:=by
 intro κ hg
 have e1:MJ pl m' k' cf t h n κ=Ke pl (ev k' t) (DC (ev m' t) (κ (.tup []) h n) (fun p=>P1 p h fun es bs c=>L5 pl (ev k' t) es fun es'=>Le pl (ev k' t) es bs fun bs=>κ (.tup []) (B5 p h (some (.m es' bs c))) n)):=by
  simp only [MJ,AS,Bt]
 rw [e1] at hg
 obtain ⟨hko,e2⟩:=IC hg
 rw [e2] at hg
 have hargs':ct.args = #[m,k]:=by rw [←hargs]
 have hts':ct.argTypes[0]? = some ty:=by rw [←Array.getElem?_toList,hts]; rfl
 have htup:∀ φ,AG ρ φ (.tup []) (.tuple #[]):=fun φ=>by simp only [AG]; exact ⟨#[],rfl,by simp only [Bu]⟩
 rcases Dn hg with ⟨hmv,e3⟩ | ⟨p,hmv,e3⟩
 ·refine ⟨_,h,n,e1.trans (e2.trans e3),.pure fun φ a w hT g=>⟨.tuple #[],?_,htup φ⟩⟩
  have g1:=Am hm hT
  rw [hmv] at g1
  have gx:=BW g1
  have g2:=Am hk hT
  obtain ⟨s1,s2⟩:=Fu hp g2 hko
  have hck:=Dy (P:=P) (b:=true) (d:=9998) hp s1 w s2
  simp only [execOp,ho,resolve,hb,hargs',invoke,builtin,Sem.run_bind,Sem.run_pure,Result.andThen_ok]
  simp [Builtin.delete_,hts',gx,C7,run_underlying ht,hck]
 ·rw [e3] at hg
  obtain ⟨es,bs,clk,hpm,e4⟩:=E9 hg
  rw [e4] at hg
  obtain ⟨r,hf,e5⟩:=Mc hp hg
  rw [e5] at hg
  have e6:=Lo hg hf
  refine ⟨_,_,n,e1.trans (e2.trans (e3.trans (e4.trans (e5.trans e6)))),.value fun φ a w hT g=>?_⟩
  have g1:=Am hm hT
  rw [hmv] at g1
  obtain ⟨b,s,tot,hφ,gx⟩:=F9 g1
  obtain ⟨ents,k1,k2,k3⟩:=g.obj p _ b s tot hpm hφ
  have g2:=Am hk hT
  obtain ⟨s1,s2⟩:=Fu hp g2 hko
  have hck:=Dy (P:=P) (b:=ents.isEmpty) (d:=9998) hp s1 w s2
  obtain ⟨hfk,hsb⟩:=EY (P:=P) (w:=w) hp g2 hf k2
  have hgo:(getObj b).run P w = .ok (.map ents clk) w:=by simp [getObj,Sem.run,k1]
  have hso:∀ O',(setObj b O').run P w = .ok () (CR w b O'):=fun O'=>Ka k1 (by simp)
  cases r with
  | none =>
   obtain ⟨q1,q2⟩:=IV (clk:=clk) (ents:=ents) g hpm hφ k2 k3
   refine ⟨φ,.tuple #[],_,?_,q2,q1,htup φ⟩
   simp only [execOp,ho,resolve,hb,hargs',invoke,builtin,Sem.run_bind,Sem.run_pure,Result.andThen_ok]
   simp [Builtin.delete_,hts',gx,run_underlying ht,hgo,hck,hfk,hso]
  | some i =>
   obtain ⟨mm,hmm,_⟩:=hsb i rfl
   have hmm':ents[i]? = some mm:=by simpa using hmm
   have hi:i<ents.size:=by
    rcases Nat.lt_or_ge i ents.size with h' | h'
    ·exact h'
    ·rw [Array.getElem?_eq_none h'] at hmm'; cases hmm'
   have hel:(ents.eraseIdxIfInBounds i).toList=ents.toList.eraseIdx i:=by
    unfold Array.eraseIdxIfInBounds; rw [dif_pos hi]; simp
   obtain ⟨q1,q2⟩:=IV (clk:=clk) (ents:=ents.eraseIdxIfInBounds i) g hpm hφ (es':=es.eraseIdx i) (bs':=bs.eraseIdx i) (by rw [hel]; exact Pr k2) (by rw [hel,←k3,Ij])
   refine ⟨φ,.tuple #[],_,?_,q2,q1,htup φ⟩
   simp only [execOp,ho,resolve,hb,hargs',invoke,builtin,Sem.run_bind,Sem.run_pure,Result.andThen_ok]
   simp [Builtin.delete_,hts',gx,run_underlying ht,hgo,hck,hfk,hmm',hso]
theorem Fz {m:Nat} {κ:V->R} (hg:(Gb m κ).good):m<Hk .i64∧Gb m κ=κ (.int .i64 m):=by
 obtain ⟨h1,e1⟩:=Ao (show R.good (br (Nat.ble (Nat.succ m) 9223372036854775808) (κ (.int .i64 m)) (.fail "")) from hg)
 exact ⟨BT h1,e1⟩
theorem DA {m:Nat} (hm:m<Hk .i64) (φ:B6):AG ρ φ (.int .i64 m) (goInt m):=by
 simp only [AG,goInt]
 exact ⟨Nat.lt_of_lt_of_le hm (GF _),by rw [AA hm]⟩
theorem UF (es:List (V×V)) (κ:Nat->R):VE es κ=κ es.length:=by
 induction es generalizing κ with
 | nil=>rfl
 | cons x xs ih=>exact (ih fun n=>Ai (Nat.succ n) κ).trans (Ah _ _)
theorem DG {ct:Call} {b:Builtin} (ho:o.op = .call ct) (hb:ct.callee = .builtin b) {a:Act} {w w':World} {v:Value}
  (hr:∀ cs,(builtin b ct.argTypes o.type cs (ct.args.map a.eval)).run P w = .ok (.value v) w'):(execOp a.eval o).run P w = .ok (.value v) w':=by
 simp [execOp,ho,resolve,hb,invoke,hr]
section
variable {ct:Call} {ty:TypeId} {x:Operand} {x':Opd} {ts:List TypeId} {xs:List Operand}
theorem LQ (ho:o.op = .call ct) (hb:ct.callee = .builtin .len) (hts:ct.argTypes.toList=ty::ts) (hargs:ct.args.toList=x::xs)
  (hx:AY N x=some x') (ht:P.underlying ty=some .string):Bo P ρ B N o (LC x' cf t h n) t h n:=by
 intro κ hg
 have e0:LC x' cf t h n κ=TZ (ev x' t) (fun l0 l1 _ _=>br (Nat.ble (Nat.succ l1) 9223372036854775808) (κ (.oth (.iv .i64 l0 l1)) h n) (.fail "")) (Bl (ev x' t) fun m _=>Gb m fun v=>κ v h n):=by simp only [LC,AS]
 rw [e0] at hg
 have hargs':ct.args[0]? = some x:=by rw [←Array.getElem?_toList,hargs]; rfl
 have hts':ct.argTypes[0]? = some ty:=by rw [←Array.getElem?_toList,hts]; rfl
 rcases IL (ev x' t) (fun l0 l1 _ _=>br (Nat.ble (Nat.succ l1) 9223372036854775808) (κ (.oth (.iv .i64 l0 l1)) h n) (.fail "")) (Bl (ev x' t) fun m _=>Gb m fun v=>κ v h n) with ⟨l0,l1,_,_,hv,e1⟩ | e1
 ·rw [e1] at hg
  obtain ⟨hb',e2⟩:=Ao hg
  have hb':l1+1≤9223372036854775808:=Ap.1 hb'
  refine ⟨_,e0.trans (e1.trans e2),fun φ a w hT g=>?_⟩
  have g1:=Am hx hT
  rw [hv] at g1
  simp only [AG] at g1
  obtain ⟨s,gx,h1,h2,_⟩:=g1
  refine ⟨goInt s.size,DG ho hb fun cs=>?_,?_⟩
  ·simp [builtin,Builtin.len_,hts',hargs',gx,run_underlying ht]
  ·simp only [AG]
   exact ⟨s.size,h1,h2,by simp only [Mk]; omega,by rw [AA (by simp only [Hk]; omega)]; rfl⟩
 have e1:=e0.trans e1
 rw [←e0,e1] at hg
 obtain ⟨m,c,hv,e2⟩:=BX hg
 rw [e2] at hg
 obtain ⟨hm,e3⟩:=Fz hg
 refine ⟨_,e1.trans (e2.trans e3),fun φ a w hT g=>⟨goInt m,DG ho hb fun cs=>?_,DA hm φ⟩⟩
 have g1:=Am hx hT
 rw [hv] at g1
 obtain ⟨s,gx,hs,_⟩:=Cg g1
 simp [builtin,Builtin.len_,hts',hargs',gx,run_underlying ht,hs]
theorem Lq {e:TypeId} (ho:o.op = .call ct) (hb:ct.callee = .builtin .len) (hts:ct.argTypes.toList=ty::ts) (hargs:ct.args.toList=x::xs)
  (hx:AY N x=some x') (ht:P.underlying ty=some (.slice e)):Bo P ρ B N o (MK x' cf t h n) t h n:=by
 intro κ hg
 have e0:MK x' cf t h n κ=Hb (ev x' t) (κ (.int .i64 0) h n) (fun p off len cap ex esz=>Gb len fun v=>κ v h n) (fun o=>VS o (fun l0 l1=>br (Nat.ble (Nat.succ l1) 9223372036854775808) (κ (.oth (.iv .i64 l0 l1)) h n) (.fail "")) (PW o (fun i l0 l1 z=>br (Nat.ble (Nat.succ l1) 9223372036854775808) (br (Nat.beq l0 l1) (κ (.int .i64 l0) h n) (κ (.oth (.iv .i64 l0 l1)) h n)) (.fail "")) (.fail ""))):=by simp only [MK,AS]
 rw [e0] at hg
 have hargs':ct.args[0]? = some x:=by rw [←Array.getElem?_toList,hargs]; rfl
 have hts':ct.argTypes[0]? = some ty:=by rw [←Array.getElem?_toList,hts]; rfl
 rcases J0 hg with ⟨hv,e2⟩ | ⟨p,off,len,cap,ex,esz,hv,e2⟩ | ⟨oo,hv,e2⟩
 ·refine ⟨_,e0.trans e2,fun φ a w hT g=>⟨goInt 0,DG ho hb fun cs=>?_,DA (by decide) φ⟩⟩
  have g1:=Am hx hT
  rw [hv] at g1
  have gx:=BW g1
  simp [builtin,Builtin.len_,hts',hargs',gx,C7,run_underlying ht]
 ·rw [e2] at hg
  obtain ⟨hm,e3⟩:=Fz hg
  refine ⟨_,e0.trans (e2.trans e3),fun φ a w hT g=>⟨goInt len,DG ho hb fun cs=>?_,DA hm φ⟩⟩
  have g1:=Am hx hT
  rw [hv] at g1
  obtain ⟨b,s,tot,oo,rcap,hφ,gx,_⟩:=CJ g1
  simp [builtin,Builtin.len_,hts',hargs',gx,run_underlying ht]
 ·rw [e2] at hg
  cases oo with
  | os l0 l1 =>
   have hg':R.good (br (Nat.ble (Nat.succ l1) 9223372036854775808) (κ (.oth (.iv .i64 l0 l1)) h n) (.fail "")):=hg
   obtain ⟨hb',e3⟩:=Ao hg'
   have hb':l1+1≤9223372036854775808:=Ap.1 hb'
   refine ⟨_,e0.trans (e2.trans e3),fun φ a w hT g=>?_⟩
   have g1:=Am hx hT
   rw [hv] at g1
   simp only [AG] at g1
   obtain ⟨p,len,cap,gx,h1,h2,h3⟩:=g1
   refine ⟨goInt len,DG ho hb fun cs=>?_,?_⟩
   ·simp [builtin,Builtin.len_,hts',hargs',gx,run_underlying ht]
   ·simp only [AG]
    exact ⟨len,h1,h2,by simp only [Mk]; omega,by rw [AA (by simp only [Hk]; omega)]; rfl⟩
  | ro i l0 l1 z =>
   have hg':R.good (br (Nat.ble (Nat.succ l1) 9223372036854775808) (br (Nat.beq l0 l1) (κ (.int .i64 l0) h n) (κ (.oth (.iv .i64 l0 l1)) h n)) (.fail "")):=hg
   obtain ⟨hb',e3⟩:=Ao hg'
   have hb':l1+1≤9223372036854775808:=Ap.1 hb'
   have key:∃ v,br (Nat.beq l0 l1) (κ (.int .i64 l0) h n) (κ (.oth (.iv .i64 l0 l1)) h n)=κ v h n ∧ ∀ (φ:B6) (len:Nat),l0≤len->len≤l1->AG ρ φ v (goInt len):=by
    cases hl:Nat.beq l0 l1 with
    | true =>
     have hl:=Nat.eq_of_beq_eq_true hl
     refine ⟨_,by rw [AQ],fun φ len h1 h2=>?_⟩
     obtain rfl:len=l0:=by omega
     exact DA (show len<9223372036854775808 by omega) φ
    | false =>
     refine ⟨_,by rw [AO],fun φ len h1 h2=>?_⟩
     simp only [AG]
     exact ⟨len,h1,h2,by simp only [Mk]; omega,by rw [AA (by simp only [Hk]; omega)]; rfl⟩
   obtain ⟨v,e4,hv4⟩:=key
   refine ⟨_,e0.trans (e2.trans (e3.trans e4)),fun φ a w hT g=>?_⟩
   have g1:=Am hx hT
   rw [hv] at g1
   simp only [AG] at g1
   obtain ⟨b,q,len,cap,c,e',fr,gx,h1,h2,h3,_⟩:=g1
   refine ⟨goInt len,DG ho hb fun cs=>?_,hv4 φ len h1 h2⟩
   simp [builtin,Builtin.len_,hts',hargs',gx,run_underlying ht]
  | _=>exact hg.elim
theorem Mt {e:TypeId} (ho:o.op = .call ct) (hb:ct.callee = .builtin .cap) (hts:ct.argTypes.toList=ty::ts) (hargs:ct.args.toList=x::xs)
  (hx:AY N x=some x') (ht:P.underlying ty=some (.slice e)):Bo P ρ B N o (Mq x' cf t h n) t h n:=by
 intro κ hg
 have e1:Mq x' cf t h n κ=CX (ev x' t) (κ (.int .i64 0) h n) (fun p off len cap ex esz=>br ex (Gb cap fun v=>κ v h n) (.fail "")):=by simp only [Mq,AS]
 rw [e1] at hg
 have hargs':ct.args[0]? = some x:=by rw [←Array.getElem?_toList,hargs]; rfl
 have hts':ct.argTypes[0]? = some ty:=by rw [←Array.getElem?_toList,hts]; rfl
 rcases CC hg with ⟨hv,e2⟩ | ⟨p,off,len,cap,ex,esz,hv,e2⟩
 ·refine ⟨_,e1.trans e2,fun φ a w hT g=>⟨goInt 0,DG ho hb fun cs=>?_,DA (by decide) φ⟩⟩
  have g1:=Am hx hT
  rw [hv] at g1
  have gx:=BW g1
  simp [builtin,Builtin.cap_,hts',hargs',gx,C7,run_underlying ht]
 ·rw [e2] at hg
  obtain ⟨hex,e3⟩:=Ao hg
  rw [e3] at hg
  obtain ⟨hm,e4⟩:=Fz hg
  refine ⟨_,e1.trans (e2.trans (e3.trans e4)),fun φ a w hT g=>⟨goInt cap,DG ho hb fun cs=>?_,DA hm φ⟩⟩
  have g1:=Am hx hT
  rw [hv] at g1
  obtain ⟨b,s,tot,oo,rcap,hφ,gx,_,_,c3,_⟩:=CJ g1
  have hc:=c3 hex
  subst hc
  simp [builtin,Builtin.cap_,hts',hargs',gx,run_underlying ht]
theorem Lx {k e:TypeId} (ho:o.op = .call ct) (hb:ct.callee = .builtin .len) (hts:ct.argTypes.toList=ty::ts) (hargs:ct.args.toList=x::xs)
  (hx:AY N x=some x') (ht:P.underlying ty=some (.map k e)):Bo P ρ B N o (Lm x' cf t h n) t h n:=by
 intro κ hg
 have e1:Lm x' cf t h n κ=DC (ev x' t) (κ (.int .i64 0) h n) (fun p=>P1 p h fun es _ _=>Gb es.length fun v=>κ v h n):=by
  simp only [Lm,AS]
  congr 1; funext p; congr 1; funext es _ _; exact UF es _
 rw [e1] at hg
 have hargs':ct.args[0]? = some x:=by rw [←Array.getElem?_toList,hargs]; rfl
 have hts':ct.argTypes[0]? = some ty:=by rw [←Array.getElem?_toList,hts]; rfl
 rcases Dn hg with ⟨hv,e2⟩ | ⟨p,hv,e2⟩
 ·refine ⟨_,e1.trans e2,fun φ a w hT g=>⟨goInt 0,DG ho hb fun cs=>?_,DA (by decide) φ⟩⟩
  have g1:=Am hx hT
  rw [hv] at g1
  have gx:=BW g1
  simp [builtin,Builtin.len_,hts',hargs',gx,C7,run_underlying ht]
 ·rw [e2] at hg
  obtain ⟨es,bs,clk,hpm,e3⟩:=E9 hg
  rw [e3] at hg
  obtain ⟨hm,e4⟩:=Fz hg
  refine ⟨_,e1.trans (e2.trans (e3.trans e4)),fun φ a w hT g=>⟨goInt es.length,DG ho hb fun cs=>?_,DA hm φ⟩⟩
  have g1:=Am hx hT
  rw [hv] at g1
  obtain ⟨b,s,tot,hφ,gx⟩:=F9 g1
  obtain ⟨ents,k1,k2,_⟩:=g.obj p _ b s tot hpm hφ
  have hl:=F8 k2
  have hgo:(getObj b).run P w = .ok (.map ents clk) w:=by simp [getObj,Sem.run,k1]
  simp [builtin,Builtin.len_,hts',hargs',gx,run_underlying ht,hgo]
  rw [←hl]; simp
end
end
end Go.Ev

namespace Go.Ev
set_option linter.unusedVariables false
section
variable {P:Program} {ρ:Env} {B N:Nat} {o:Oper} {cf:CF} {t:Regs} {h:Heap} {n:K4}
theorem Gam.frz {φ:B6} {w:World} (g:Gam ρ B h n φ w) {p:K4} {cs:Cs} {sup:Bool} {prev:Option K4} {b s tot:Nat} {c:Array Value} {e:TypeId} {fr fr':Nat×Nat}
  (hp:AL p h=some (.c cs sup prev)) (hφ:φ p=some (b,s,tot)) (hw:w.heap[b]? = some (.cells c e fr)) (hf:Vq fr' c.size) :
  Gam ρ B h n φ (CR w b (.cells c e fr'))∧Fr h h φ φ n n w (CR w b (.cells c e fr')):=by
 have hb:=(g.blk p b s tot hφ).2
 refine ⟨⟨by rw [DT]; exact g.base,g.dom,fun q b1 s1 t1 hx=>by rw [DT]; exact g.blk q b1 s1 t1 hx,fun q o1 b1 s1 t1 hq hx=>?_,g.sep,g.sup,fun k c e fr hk=>⟨(g.glob k c e fr hk).1,by rw [GO (by have:=(g.glob k c e fr hk).1; have:=(g.blk p b s tot hφ).1; omega)]; exact (g.glob k c e fr hk).2⟩⟩,
  ⟨B6.le_refl φ,fun _ _ h=>.inl h,Nat.le_refl _,rfl,rfl,rfl,by rw [DT]; exact Nat.le_refl _,fun k hk hn=>GO fun e=>?_,fun _ _ _ _ h=>.inl h,fun _ _ h=>h⟩⟩
 ·have k:=g.obj q o1 b1 s1 t1 hq hx
  by_cases e:b=b1
  ·subst e
   cases o1 with
   | c cs1 sup1 prev1 =>
    obtain ⟨c1,e1,fr1,h1,h2,h3,h4,h5⟩:=k
    rw [hw] at h1; cases h1
    exact ⟨c,e,fr',Dr hb,h2,h3,h2 ▸ hf,h5⟩
   | m es bs clk=>obtain ⟨ents,h1,_⟩:=k; rw [hw] at h1; cases h1
   | it p since seen c=>obtain ⟨bm,sm,tm,_,_,h1⟩:=k; rw [hw] at h1; cases h1
   | it0=>obtain ⟨_,h1⟩:=k; rw [hw] at h1; cases h1
   | lp _ _=>obtain ⟨_,A,fn,tmps,D,_,h1,_⟩:=k; rw [hw] at h1; cases h1
  ·exact Ca (GO e) k
 ·subst e
  have:=hn p s tot hφ; rw [hp] at this; cases this
theorem RY {src dst e e':TypeId} {x:Operand} {x':Opd} (ho:o.op = .convert src dst x) (hx:AY N x=some x') (hs:P.underlying src=some (.slice e')) (hd:P.underlying dst=some (.slice e)) (hsd:(src == dst)=true) (he:P.underlying e=some (.int .u8)) :
  CB P ρ B N o (MD x' cf t h n) t h n:=by
 intro κ hg
 have e1:MD x' cf t h n κ=CX (ev x' t) (.fail "") (fun p _ _ _ _ _=>IJ p h fun _ _ _=>κ (ev x' t) h n):=by simp only [MD,AS]
 rw [e1] at hg
 rcases CC hg with ⟨hv,e2⟩ | ⟨p,off,len,cap,ex,esz,hv,e2⟩
 ·rw [e2] at hg; exact hg.elim
 ·rw [e2] at hg
  obtain ⟨cs,sup,prev,hp,e3⟩:=CS hg
  refine ⟨_,h,n,e1.trans (e2.trans e3),.value fun φ a w hT g=>?_⟩
  have g1:=Am hx hT
  rw [hv] at g1
  obtain ⟨b,s,tot,q,cap',hφ,gx,_⟩:=CJ g1
  obtain ⟨c,et,fr,k1,k2,k3,k4,k5⟩:=g.obj p _ b s tot hp hφ
  obtain ⟨g2,g3⟩:=g.frz hp hφ k1 (fr':=if fr.1 == fr.2 then (c.size,c.size+1) else (min fr.1 c.size,max fr.2 (c.size+1))) (by
   split
   ·exact .inr (Nat.le_refl _)
   ·rename_i hne
    rcases k4 with h' | h'
    ·simp [h'] at hne
    ·exact .inr (by show c.size≤min fr.1 c.size; omega))
  refine ⟨φ,a.eval x,_,?_,g3,g2,by rw [hv]; exact g1⟩
  have hsh:w.shape? b=some (et,c.size):=by unfold World.shape?; rw [k1]
  have hfz:=Gg (off:=c.size) k1
  simp only [execOp,ho,gx,convert,Sem.run_bind,run_underlying hs,run_underlying hd,Result.andThen_ok,hsd,run_underlying he,markStringish]
  have hsr:(shape b).run P w = .ok (some (et,c.size)) w:=by simp [shape,Sem.run,hsh]
  simp only [hsr,Result.andThen_ok,run_freeze,hfz,Sem.run_pure]
theorem PS (off:Nat) (vs:List Value):∀ (k:Nat) (c:Array Value),off+k+vs.length≤c.size →
  ((vs.zipIdx k).foldl (fun cs (x:Value×Nat)=>cs.setIfInBounds (off+x.2) x.1) c).toList=c.toList.take (off+k)++(vs++c.toList.drop (off+k+vs.length)):=by
 induction vs with
 | nil=>intro k c _; simp
 | cons v vs ih =>
  intro k c hk
  simp only [List.length_cons] at hk
  rw [List.zipIdx_cons,List.foldl_cons,ih (k+1) _ (by simp; omega)]
  have hlt:off+k<c.toList.length:=by simp; omega
  rw [Array.toList_setIfInBounds,List.set_eq_take_append_cons_drop,if_pos hlt]
  have hl:(c.toList.take (off+k)).length=off+k:=by rw [List.length_take]; omega
  have h1:(c.toList.take (off+k)++v::c.toList.drop (off+k+1)).take (off+(k+1))=c.toList.take (off+k)++[v]:=by
   rw [List.take_append,hl,List.take_of_length_le (by omega)]
   have:off+(k+1) - (off+k)=1:=by omega
   rw [this]; rfl
  have h2:(c.toList.take (off+k)++v::c.toList.drop (off+k+1)).drop (off+(k+1)+vs.length)=c.toList.drop (off+k+(v::vs).length):=by
   rw [List.drop_append,hl,List.drop_eq_nil_of_le (by omega)]
   have:off+(k+1)+vs.length - (off+k)=vs.length+1:=by omega
   rw [this,List.drop_succ_cons,List.drop_drop,List.nil_append]
   congr 1; simp only [List.length_cons]; omega
  rw [h1,h2]; simp
theorem Ru {xs ys:List V} {off:Nat} {κ:List V->R} (hg:(Lh xs off ys κ).good):off+ys.length≤xs.length∧Lh xs off ys κ=κ (xs.take off++(ys++xs.drop (off+ys.length))):=by
 obtain ⟨h1,e1⟩:=EC (show R.good (Dq off xs _) from hg)
 have e1:Lh xs off ys κ=_:=e1
 rw [e1,Dj,Ah] at hg
 obtain ⟨h2,e2⟩:=EJ hg
 exact ⟨h2,by rw [e1,Dj,Ah,e2,Em,Em]; rfl⟩
theorem F1 (hρ:Bq ρ) {place:Nat->Option (Nat×Nat)}:∀ {parts:List (Nat×Operand)} {ps:List Part} {z:List V} {κ:List V->R},Fd N place parts=some ps->(D8 ps t z κ).good →
  ∃ l,l.length=z.length∧D8 ps t z κ=κ l ∧ ∀ (φ:B6) (a:Act) (zc:Array Value),TR ρ N φ t a->Bu ρ φ z zc.toList->(∀ y∈zc.toList,y.oneCell'=true) →
   ∃ cells,Instr.fill place zc (parts.map fun x=>(x.1,a.eval x.2))=some cells∧Bu ρ φ l cells.toList ∧ ∀ y∈cells.toList,y.oneCell'=true
 | [],ps,z,κ,hp,hg=>by
  simp only [Fd,Option.some.injEq] at hp; subst hp
  exact ⟨z,rfl,rfl,fun φ a zc _ h1 h2=>⟨zc,rfl,h1,h2⟩⟩
 | (i,x)::parts,ps,z,κ,hp,hg=>by
  simp only [Fd] at hp
  split at hp
  ·rename_i off size x' xs hpl hx hxs
   cases hp
   have e1:D8 (⟨off,size,x'⟩::xs) t z κ=DQ (ev x' t) fun l=>GJ l fun m=>br (Nat.beq m size) (Lh z off l fun z=>D8 xs t z κ) (.fail ""):=AS x' t _
   rw [e1] at hg
   obtain ⟨hc,e2⟩:=Fb hg
   rw [e2,Dj] at hg
   obtain ⟨h3,e3⟩:=Ao hg
   have h3:=Nat.eq_of_beq_eq_true h3
   rw [e3] at hg
   obtain ⟨h4,e4⟩:=Ru hg
   rw [e4] at hg
   obtain ⟨l,hl,e5,H⟩:=F1 hρ hxs hg
   have hlen:((z.take off)++((ev x' t).cl++z.drop (off+(ev x' t).cl.length))).length=z.length:=by
    simp only [List.length_append,List.length_take,List.length_drop]; omega
   refine ⟨l,hl.trans hlen,e1.trans (e2.trans ((Dj _ _).trans (e3.trans (e4.trans e5)))),fun φ a zc hT h1 h2=>?_⟩
   obtain ⟨hr,ho⟩:=GX hρ hc (Am hx hT)
   have hrl:=Bf hr
   have hzl:=Bf h1
   have hsz:(a.eval x).cells.size=size:=by rw [←h3,←hrl]; simp
   have hle:off+0+(a.eval x).cells.toList.length≤zc.size:=by rw [hrl]; simp at hzl; omega
   have hfold:=PS off (a.eval x).cells.toList 0 zc hle
   obtain ⟨cells,k1,k2,k3⟩:=H φ a (((a.eval x).cells.toList.zipIdx 0).foldl (fun cs (x:Value×Nat)=>cs.setIfInBounds (off+x.2) x.1) zc) hT (by
    rw [hfold,Nat.add_zero,hrl]
    exact F4 (IB h1 off) (F4 hr (IS h1 _))) (fun y hy=>by
    rw [hfold] at hy
    rcases List.mem_append.1 hy with hy | hy
    ·exact h2 y (List.mem_of_mem_take hy)
    ·rcases List.mem_append.1 hy with hy | hy
     ·exact ho y hy
     ·exact h2 y (List.mem_of_mem_drop hy))
   refine ⟨cells,?_,k2,k3⟩
   rw [List.map_cons,Instr.fill,hpl]
   have hcond:((a.eval x).cells.size≠size || off+(a.eval x).cells.size > zc.size)=false:=by
    simp at hle; simp [hsz]; omega
   simp only [hcond,Bool.false_eq_true,if_false]
   rw [←k1]
   congr 1
   rw [←Array.foldl_toList,Array.toList_zipIdx]
  ·cases hp
theorem CY {ty:TypeId} {z:List V} (hz:D9 P ty=some z):∃ zv it,P.info? ty=some it∧it.zero=some zv ∧ ∀ φ,Bu ρ φ z zv.cells.toList ∧ ∀ y∈zv.cells.toList,y.oneCell'=true:=by
 unfold D9 at hz
 cases hi:P.info? ty with
 | none=>rw [hi] at hz; cases hz
 | some it =>
  rw [hi] at hz
  cases hzv:it.zero with
  | none=>rw [Option.bind_some,hzv] at hz; cases hz
  | some zv =>
   rw [Option.bind_some,hzv] at hz
   exact ⟨zv,it,rfl,hzv,fun φ=>Es (show Hd zv.cells.toList=some z from hz) φ⟩
theorem F5 {ty:TypeId} {parts:Array (Nat×Operand)} {place:Nat->Option (Nat×Nat)} {z:List V} {ps:List Part} (hρ:Bq ρ) (ho:o.op = .build ty parts) (hz:D9 P ty=some z) (hps:Fd N place parts.toList=some ps)
  (hb:∀ it zv,P.info? ty=some it->it.zero=some zv->∀ l,P.built ty l=Instr.fill place zv.cells l):Bo P ρ B N o (Qq z ps cf t h n) t h n:=by
 intro κ hg
 obtain ⟨l,hl,e1,H⟩:=F1 hρ hps (show R.good (D8 ps t z fun l=>κ (.agg l) h n) from hg)
 refine ⟨_,e1,fun φ a w hT g=>?_⟩
 obtain ⟨zv,it,hi,hzv,hr⟩:=CY (ρ:=ρ) hz
 obtain ⟨cells,k1,k2,k3⟩:=H φ a zv.cells hT (hr φ).1 (hr φ).2
 refine ⟨.agg cells,?_,by simp only [AG]; exact ⟨_,rfl,k2,k3⟩⟩
 have hbuilt:P.built ty (parts.map fun (i,x)=>(i,a.eval x)).toList=some cells:=by
  rw [hb it zv hi hzv,Array.toList_map]; exact k1
 simp only [execOp,ho,Sem.run_bind,run_build w ty _ cells hbuilt,Result.andThen_ok,Sem.run_pure]
theorem Dv {φ:B6} {z:List V} {zc:Array Value} (hr:Bu ρ φ z zc.toList) (ho:∀ y∈zc.toList,y.oneCell'=true) {k i:Nat} (hi:i<k) {v:V} (hv:z[i % z.length]? = some v) :
  ∃ x,((Array.range k).map (zc[· % zc.size]!))[i]? = some x∧AG ρ φ v x∧x.oneCell'=true:=by
 have hl:=Bf hr
 obtain ⟨x,hx,hrx⟩:=(Cc.1 hr).2 _ v hv
 refine ⟨x,?_,hrx,ho x (List.mem_of_getElem? hx)⟩
 rw [Array.getElem?_map,Array.getElem?_range,if_pos hi]
 have hs:zc.size=z.length:=by simpa using hl
 have hx':zc[i % z.length]? = some x:=by simpa using hx
 simp [hs,getElem!_def,hx']
theorem LI {z:List V}:∀ {m i:Nat},i<m*z.length->(DR z m)[i]? = z[i % z.length]?:=by
 intro m
 induction m with
 | zero=>intro i hi; simp at hi
 | succ m ih =>
  intro i hi
  simp only [DR]
  by_cases hz:i<z.length
  ·rw [List.getElem?_append_left hz,Nat.mod_eq_of_lt hz]
  ·rw [List.getElem?_append_right (by omega),ih (by rw [Nat.succ_mul] at hi; omega)]
   congr 1
   rw [←Nat.mod_eq_sub_mod (by omega)]
theorem CG {z:List V} {m:Nat}:(DR z m).length=m*z.length:=by
 induction m with
 | zero=>simp [DR]
 | succ m ih=>simp only [DR,List.length_append,ih,Nat.succ_mul]; omega
theorem FS {φ:B6} {p:K4} {b tot len cap esz:Nat} (h1:len≤cap) (h2:cap*esz≤tot):AG ρ (E5 φ p (b,0,tot)) (.sl p 0 len cap true esz) (.slice (some ⟨b,0,none⟩) len cap):=by
 simp only [AG]
 exact ⟨b,0,tot,0,cap,BR _ _ _,rfl,h1,Nat.le_refl _,fun _=>rfl,fun _=>⟨rfl,by omega⟩⟩
theorem Nj {ty e:TypeId} {len s:Nat} {parts:Array (Nat×Operand)} {z:List V} {ps:List Part} {u8:Bool} (hρ:Bq ρ) (ho:o.op = .buildSlice ty len parts) (hu:P.underlying ty=some (.slice e)) (hs:Bw P e=some s) (hz:D9 P e=some z)
  (hsz:s=z.length) (h0:0<s) (hbig:len*s≤2 ^ 24) (hps:Fd N (fun i=>some (i*s,s)) parts.toList=some ps):CB P ρ B N o (GH u8 len s (DR z len) ps cf t h n) t h n:=by
 intro κ hg
 obtain ⟨l,hl,e1,H⟩:=F1 hρ hps (show R.good (D8 ps t (DR z len) _) from hg)
 have e1:GH u8 len s (DR z len) ps cf t h n κ=_:=e1
 rw [e1] at hg
 rw [CG] at hl
 obtain ⟨zv,it,hi,hzv,hr⟩:=CY (ρ:=ρ) hz
 have hits:it.size=s:=by unfold Bw at hs; rw [hi] at hs; simpa using hs
 -- the cells,whichever way they are kept
 have fin:∀ (cs:Cs) (n':K4),n'.toN=n.toN+1->cs.len=l.length->(∀ i,cs.at i=l[i]?)->Gv P ρ B N o t h n (.sl n 0 len len true s) (B5 n h (some (.c cs false none))) n':=fun cs n' hn hcl hca=>.value fun φ a w hT g=>by
  have hzl:=Bf (hr φ).1
  obtain ⟨cells,k1,k2,k3⟩:=H φ a ((Array.range (len*s)).map (zv.cells[· % zv.cells.size]!)) hT (Cc.2 ⟨by simp [CG,hsz],fun i v hv=>by
    have hlt:i<len*z.length:=by
     rcases Nat.lt_or_ge i (len*z.length) with h' | h'
     ·exact h'
     ·rw [List.getElem?_eq_none (by rw [CG]; exact h')] at hv; cases hv
    rw [LI hlt] at hv
    obtain ⟨x,hx,hrx,_⟩:=Dv (hr φ).1 (hr φ).2 (k:=len*s) (by rw [hsz]; exact hlt) hv
    exact ⟨x,by rw [Array.getElem?_toList]; exact hx,hrx⟩⟩) (fun y hy=>by
    obtain ⟨i,hi',rfl⟩:=List.getElem_of_mem hy
    have hlt:i<len*z.length:=by simpa [hsz] using hi'
    have hzp:i % z.length<z.length:=Nat.mod_lt _ (by omega)
    obtain ⟨x,hx,_,hox⟩:=Dv (hr φ).1 (hr φ).2 (k:=len*s) (i:=i) (by rw [hsz]; exact hlt) (List.getElem?_eq_getElem hzp)
    have hx':=hx
    rw [←Array.getElem?_toList,List.getElem?_eq_getElem hi'] at hx'
    cases hx'; exact hox)
  have hcl2:=Bf k2
  have hc:=DJ k2 k3
  obtain ⟨g1,g2⟩:=Cu g hn (e:=e) (fr:=(0,0)) (c:=cells) (cs:=cs) (by rw [hcl]; simp at hcl2; omega) (Jv _) (fun i v hv=>by rw [hca i] at hv; simpa using hc i v hv)
  refine ⟨_,.slice (some ⟨w.heap.size,0,none⟩) len len,_,?_,g2,g1,FS (Nat.le_refl _) (by simp at hcl2; rw [hcl2,hl,hsz]; exact Nat.le_refl _)⟩
  have hfill:Instr.fill (fun i=>some (i*it.size,it.size)) ((Array.range (len*it.size)).map (zv.cells[· % zv.cells.size]!)) (parts.map fun (i,x)=>(i,a.eval x)).toList=some cells:=by
   rw [hits,Array.toList_map]; exact k1
  have hrun:(Instr.buildSlice ty len (parts.map fun (i,x)=>(i,a.eval x))).run P w = .ok (.slice (some ⟨w.heap.size,0,none⟩) len len) (w.alloc (.cells cells e)):=by
   by_cases h00:len*it.size=0
   ·have hfill':Instr.fill (fun i=>some (i*it.size,it.size)) #[] (parts.map fun (i,x)=>(i,a.eval x)).toList=some cells:=by
     have:(Array.range (len*it.size)).map (zv.cells[· % zv.cells.size]!) = #[]:=Array.eq_empty_of_size_eq_zero (by simp [h00])
     rw [this] at hfill; exact hfill
    simp only [Instr.buildSlice,Sem.run_bind,run_underlying hu,Result.andThen_ok,Bh hs]
    rw [←hits]
    simp only [h00]
    have hr0:∀ q:Array Value,(Array.range 0).map (fun x=>q[x % q.size]!) = #[]:=fun q=>Array.eq_empty_of_size_eq_zero (by simp)
    simp [hr0]
    rw [Array.toList_map] at hfill'
    rw [show (List.map (fun x:Nat×Operand=>(x.fst,a.eval x.snd)) parts.toList)=List.map (fun x=>match x with | (i,x)=>(i,a.eval x)) parts.toList from rfl,hfill']
    rfl
   ·exact run_buildSlice w ty e len _ cells it zv hu hi hzv (by rw [hits]; omega) h00 hfill
  simp only [execOp,ho,Sem.run_bind,hrun,Result.andThen_ok,Sem.run_pure]
 cases u8 with
 | true =>
  have hg':R.good (CM l (fun m c=>D2 h n (.c (.b m c) false none) fun h' n'=>κ (.sl n 0 len len true s) h' n') (.fail "")):=hg
  obtain ⟨m,c,e2,hml,hma,_⟩:=HJ hg'
  rw [e2] at hg'
  obtain ⟨n',hn,e3⟩:=Bs hg'
  exact ⟨_,_,_,e1.trans (Eq.trans e2 e3),fin (.b m c) n' hn hml hma⟩
 | false =>
  obtain ⟨n',hn,e3⟩:=Bs (show R.good (D2 h n (.c (.l l) false none) fun h' n'=>κ (.sl n 0 len len true s) h' n') from hg)
  exact ⟨_,_,_,e1.trans e3,fin (.l l) n' hn rfl fun _=>rfl⟩
theorem MS {z:List V} (h:L9 z=true):z=[.int .u8 0]:=by
 unfold L9 at h
 split at h
 ·rfl
 ·cases h
theorem Q3 {ty e:TypeId} {l c:Operand} {l' c':Opd} {s eb:Nat} {z:List V} (ho:o.op = .makeSlice ty l c) (hl:AY N l=some l') (hc:AY N c=some c') (hu:P.underlying ty=some (.slice e)) (hs:Bw P e=some s) (hb:EI P e=some eb) (hz:D9 P e=some z)
  (hsz:s=z.length) (h0:0<s) (hb0:0<eb):CB P ρ B N o (FR eb (L9 z) z l' c' cf t h n) t h n:=by
 intro κ hg
 have e1:FR eb (L9 z) z l' c' cf t h n κ=Iw (ev l' t) fun a=>Iw (ev c' t) fun b=>br (Nat.ble a b) (br (Nat.ble (Nat.mul eb b) 281474976710656) (EH (L9 z) z b fun y=>D2 h n (.c y false none) fun h' n'=>κ (.sl n 0 a b true z.length) h' n') (.fail "")) (.fail ""):=by
  simp only [FR,AS,Dj]
 rw [e1] at hg
 obtain ⟨k1,a,hlv,ha,e2⟩:=De hg
 rw [e2] at hg
 obtain ⟨k2,b,hcv,hbv,e3⟩:=De hg
 rw [e3] at hg
 obtain ⟨h4,e4⟩:=Ao hg
 rw [e4] at hg
 obtain ⟨h5,e5⟩:=Ao hg
 rw [e5] at hg
 have h4:=Ap.1 h4
 have h5:eb*b≤281474976710656:=Ap.1 h5
 obtain ⟨y,e6,hyl,hya⟩:=GN (L9 z) z b (fun y=>D2 h n (.c y false none) fun h' n'=>κ (.sl n 0 a b true z.length) h' n') MS
 rw [e6] at hg
 obtain ⟨n',hn,e7⟩:=Bs hg
 refine ⟨_,_,_,e1.trans (e2.trans (e3.trans (e4.trans (e5.trans (e6.trans e7))))),.value fun φ ac w hT g=>?_⟩
 have g1:=Am hl hT
 rw [hlv] at g1
 have gl:=EP ha g1
 have g2:=Am hc hT
 rw [hcv] at g2
 have gc:=EP hbv g2
 obtain ⟨zv,it,hi,hzv,hr⟩:=CY (ρ:=ρ) hz
 have hits:it.size=s:=by unfold Bw at hs; rw [hi] at hs; simpa using hs
 have hitb:it.bytes=eb:=by unfold EI at hb; rw [hi] at hb; simpa using hb
 have hb63:b≤281474976710656:=Nat.le_trans (Nat.le_mul_of_pos_left b hb0) h5
 have hrun:=run_make (P:=P) w ty e it zv hu hi hzv k1 k2 (a:Int) (b:Int) (by omega) (by omega) (by rw [hitb,←Int.natCast_mul]; exact Int.ofNat_le.2 h5) (by omega)
 obtain ⟨g3,g4⟩:=Cu g hn (e:=e) (fr:=(0,0)) (c:=madeCells zv.cells (b*it.size)) (cs:=y) (by rw [size_madeCells,hyl,hits,hsz]; exact Nat.le_refl _) (Jv _) (fun i v hv=>by
  have hlt:=Cs.lt_of_at hv
  rw [hyl] at hlt
  rw [hya i hlt] at hv
  exact Dv (hr φ).1 (hr φ).2 (k:=b*it.size) (by rw [hits,hsz]; exact hlt) hv)
 refine ⟨_,.slice (some ⟨w.heap.size,0,none⟩) a b,_,?_,g4,g3,FS h4 (by rw [size_madeCells,hits,hsz]; exact Nat.le_refl _)⟩
 simp only [execOp,ho,gl,gc,Sem.run_bind,hrun,Result.andThen_ok,Sem.run_pure,Int.toNat_natCast]
end
end Go.Ev

namespace Go.Ev
set_option linter.unusedVariables false
section
variable {P:Program} {ρ:Env} {B N:Nat} {o:Oper} {cf:CF} {t:Regs} {h:Heap} {n:K4}
theorem O6 {c:Bool} {x y:R} (_:(br c x y).good):(c=true∧br c x y=x)∨(c=false∧br c x y=y):=by cases c <;> simp [br]
theorem Gam.push {φ:B6} {w:World} (g:Gam ρ B h n φ w) (O:Obj):Gam ρ B h n φ (w.alloc O) where
 base:=by have:=g.base; rw [World.size_alloc]; omega
 glob:=fun b c e fr hb=>⟨(g.glob b c e fr hb).1,by rw [Go.RowKit.Below.heap_alloc w O b (by have:=(g.glob b c e fr hb).1; have:=g.base; omega)]; exact (g.glob b c e fr hb).2⟩
 dom:=g.dom
 blk:=fun q b s t hx=>by have:=g.blk q b s t hx; rw [World.size_alloc]; omega
 obj:=fun q o' b s t hq hx=>Ca (Go.RowKit.Below.heap_alloc w O b (g.blk q b s t hx).2) (g.obj q o' b s t hq hx)
 sep:=g.sep
 sup:=g.sup
theorem Fr.push {φ:B6} {w:World} (O:Obj):Fr h h φ φ n n w (w.alloc O) where
 ext:=B6.le_refl φ
 new:=fun _ _ h=>.inl h
 nn:=Nat.le_refl _
 os:=rfl
 tape:=rfl
 out:=rfl
 size:=by rw [World.size_alloc]; omega
 old:=fun b hb _=>Go.RowKit.Below.heap_alloc w O b hb
 fresh:=fun _ _ _ _ h=>.inl h
 dm:=fun _ _ h=>h
theorem Gam.add {φ:B6} {w:World} (g:Gam ρ B h n φ w) {n':K4} (hn:n'.toN=n.toN+1) {ob:Ob} {b s tot:Nat} (hb:B≤b∧b<w.heap.size)
  (hok:Fg ρ (E5 φ n (b,s,tot)) w ob b s tot) (hsep:∀ q o' s' t',AL q h=some o'->φ q=some (b,s',t')->BP ob=some q)
  (hsup:∀ q,BP ob=some q->φ q≠none ∧ ∀ o',AL q h=some o'->Ip o'=true)
  (hold:∀ q o' s' t',AL q h=some o'->φ q=some (b,s',t')->BP o'=none) :
  Gam ρ B (B5 n h (some ob)) n' (E5 φ n (b,s,tot)) w where
 base:=g.base
 glob:=g.glob
 dom:=fun q x hx=>by
  rcases AW hx with ⟨rfl,_⟩ | ⟨_,hx⟩
  ·omega
  ·have:=g.dom q x hx; omega
 blk:=fun q b1 s1 t1 hx=>by
  rcases AW hx with ⟨rfl,e⟩ | ⟨_,hx⟩
  ·simp only [Prod.mk.injEq] at e; rw [←e.1]; exact hb
  ·exact g.blk q b1 s1 t1 hx
 obj:=fun q o' b1 s1 t1 hq hx=>by
  rcases AW hx with ⟨rfl,e⟩ | ⟨hne,hx⟩
  ·rw [AF] at hq
   simp only [Prod.mk.injEq] at e
   obtain ⟨rfl,rfl,rfl⟩:=e
   cases hq
   exact hok
  ·rw [As _ _ hne] at hq
   exact DX (CN g.at_n) (g.obj q o' b1 s1 t1 hq hx)
 sep:=fun q r o1 o2 b1 s1 t1 s2 t2 hne hq hr hx hy=>by
  rcases AW hx with ⟨rfl,e⟩ | ⟨hpq,hx⟩
  ·rcases AW hy with ⟨rfl,_⟩ | ⟨hpr,hy⟩
   ·exact absurd rfl hne
   ·simp only [Prod.mk.injEq] at e
    rw [AF] at hq; cases hq
    rw [As _ _ hpr] at hr
    exact .inl (hsep r o2 s2 t2 hr (by rw [hy,e.1]))
  ·rcases AW hy with ⟨rfl,e⟩ | ⟨hpr,hy⟩
   ·simp only [Prod.mk.injEq] at e
    rw [AF] at hr; cases hr
    rw [As _ _ hpq] at hq
    exact .inr (hsep q o1 s1 t1 hq (by rw [hx,e.1]))
   ·rw [As _ _ hpq] at hq
    rw [As _ _ hpr] at hr
    exact g.sep q r o1 o2 b1 s1 t1 s2 t2 hne hq hr hx hy
 sup:=fun q r o1 o2 b1 s1 t1 s2 t2 hq hpr hr hx hy=>by
  rcases AW hx with ⟨rfl,e⟩ | ⟨hnq,hx⟩
  ·rw [AF] at hq; cases hq
   obtain ⟨h1,h2⟩:=hsup r hpr
   have hne:n≠r:=fun e=>h1 (e ▸ g.at_n)
   rw [As _ _ hne] at hr
   exact h2 o2 hr
  ·rw [As _ _ hnq] at hq
   rcases AW hy with ⟨rfl,e⟩ | ⟨hnr,hy⟩
   ·simp only [Prod.mk.injEq] at e
    have:=hold q o1 s1 t1 hq (by rw [hx,e.1])
    rw [this] at hpr; cases hpr
   ·rw [As _ _ hnr] at hr
    exact g.sup q r o1 o2 b1 s1 t1 s2 t2 hq hpr hr hx hy
theorem Fr.add {φ:B6} {w:World} {n':K4} (hφ:φ n=none) (hn:n'.toN=n.toN+1) (ob:Option Ob) {b s tot:Nat}
  (hfr:w.heap.size≤b ∨ ∃ q s' tot',φ q=some (b,s',tot')∧AL q h≠none):Fr h (B5 n h ob) φ (E5 φ n (b,s,tot)) n n' w w where
 ext:=CN hφ
 new:=fun q x hx=>by
  rcases AW hx with ⟨rfl,_⟩ | ⟨_,hx⟩
  ·exact .inr ⟨Nat.le_refl _,by omega⟩
  ·exact .inl hx
 nn:=by omega
 os:=rfl
 tape:=rfl
 out:=rfl
 size:=Nat.le_refl _
 old:=fun b hb _=>rfl
 fresh:=fun q b1 s1 t1 hx=>by
  rcases AW hx with ⟨rfl,e⟩ | ⟨_,hx⟩
  ·simp only [Prod.mk.injEq] at e
   rw [←e.1]
   exact .inr hfr
  ·exact .inl hx
 dm:=fun q hq hn=>by
  have hne:n≠q:=fun e=>hq (e ▸ hφ)
  rw [As _ _ hne]; exact hn
theorem Fr.push_add {φ:B6} {w:World} {n':K4} (hφ:φ n=none) (hn:n'.toN=n.toN+1) (ob:Option Ob) (O:Obj) {tot:Nat} :
  Fr h (B5 n h ob) φ (E5 φ n (w.heap.size,0,tot)) n n' w (w.alloc O) :=
 Fr.alloc hφ (by omega) (Nat.le_refl _) (by omega) ob O tot
structure AppSrc (P:Program) (w:World) (ats:Array TypeId) (e:TypeId) (it:TypeInfo) (zv:Value) (x:Value) (m:Nat) (vs:List Value):Prop where
 room:∀ (ty:TypeId) (base:Option Addr) (L C:Nat),L+m≤C->∀ w',(match base with | some a=>(storeCells (a.add (L*it.size)) vs).run P w | none=>.ok () w) = .ok () w' →
  (Builtin.append_ ats ty #[.slice base L C,x]).run P w = .ok (.slice base (L+m) C) w'
 grow:∀ (ty:TypeId) (base:Option Addr) (L C:Nat),C<L+m->L+m≤9223372036854775807->Builtin.nextslicecap (L+m) C*it.bytes≤281474976710656->∀ old:Array Value,(Builtin.firstCells it.size L (.slice base L C)).run P w.drew = .ok old w.drew →
   (Builtin.append_ ats ty #[.slice base L C,x]).run P w = .ok (.slice (some ⟨w.heap.size,0,none⟩) (L+m) (grownCap w (L+m) C e))
    (w.drew.alloc (.cells (old++vs.toArray++Builtin.zeroCells zv.cells (grownCap w (L+m) C e - (L+m))) e))
theorem MX {w:World} {t u e:TypeId} {it:TypeInfo} {zv:Value} {d:TypeDesc} {x:Value} {m:Nat} {vs:List Value} (ht:P.underlying t=some (.slice e)) (hi:P.info? e=some it) (hz:it.zero=some zv) (hb:0<it.bytes)
  (hu:P.underlying u=some d) (hd:∀ k,d ≠ .int k) (hlen:∀ w,(Builtin.lenOf x).run P w = .ok m w)
  (hv:∀ w',w'.heap=w.heap->(Builtin.firstCells it.size m x).run P w' = .ok vs.toArray w'):AppSrc P w #[t,u] e it zv x m vs:=by
 have hz0:(match d with | .int _=>true | _=>false)=false:=by
  cases d with
  | int k=>exact absurd rfl (hd k)
  | _=>rfl
 refine ⟨fun ty base L C hle w' hw=>?_,fun ty base L C hlt h63 hn old ho=>?_⟩
 ·cases base with
  | none=>simp at hw; subst hw; simp [Builtin.append_,run_underlying ht,run_underlying hu,sizeOf,typeInfo,hz0,hlen,hv w rfl,hle,hi]
  | some a=>simp at hw; simp [Builtin.append_,run_underlying ht,run_underlying hu,sizeOf,typeInfo,hz0,hlen,hv w rfl,hle,hi,hw]
 ·have hn':¬ (281474976710656<Builtin.nextslicecap (L+m) C*it.bytes):=by omega
  have hle:¬ (L+m≤C):=by omega
  have hby:it.bytes≠0:=by omega
  simp [Builtin.append_,run_underlying ht,run_underlying hu,sizeOf,typeInfo,hz0,hlen,hle,hn',hby,hi,Question.forced,ho,hv w.drew rfl,zeroValue,hz,newRow,grownCap]
theorem OS {w:World} {t u e:TypeId} {it:TypeInfo} {zv:Value} {ku k:IntKind} {m:Nat} (ht:P.underlying t=some (.slice e)) (hi:P.info? e=some it) (hz:it.zero=some zv) (hb:0<it.bytes) (h0:0<it.size)
  (hu:P.underlying u=some (.int ku)) (hm:m*it.bytes≤281474976710656):AppSrc P w #[t,u] e it zv (.int k m) m (Builtin.zeroCells zv.cells m).toList:=by
 have hm1:m≤281474976710656:=Nat.le_trans (Nat.le_mul_of_pos_right m hb) hm
 have hwrap:IntKind.i64.wrap (m:Int)=(m:Int):=by
  have hH:m<Hk .i64:=by show m<9223372036854775808; omega
  rw [EO .i64 m (Nat.lt_of_lt_of_le hH (GF _)),AA hH]
 have h1:¬ ((m:Int)<0):=by omega
 have h2:¬ ((281474976710656:Int)<(m:Int)*(it.bytes:Int)):=by
  rw [←Int.natCast_mul]; have:=Int.ofNat_le.2 hm; omega
 have hz0:m*it.size=0->m=0:=fun h=>by rcases Nat.mul_eq_zero.1 h with h | h <;> omega
 have hzc:Builtin.zeroCells zv.cells 0 = #[]:=Array.eq_empty_of_size_eq_zero (by simp [Builtin.zeroCells])
 refine ⟨fun ty base L C hle w' hw=>?_,fun ty base L C hlt h63 hn old ho=>?_⟩
 ·cases base with
  | none =>
   simp at hw; subst hw
   simp [Builtin.append_,run_underlying ht,run_underlying hu,sizeOf,typeInfo,asInt,asIntOf,hwrap,h1,h2,hle,hi,zeroValue,hz]
  | some a =>
   simp at hw
   simp [Builtin.append_,run_underlying ht,run_underlying hu,sizeOf,typeInfo,asInt,asIntOf,hwrap,h1,h2,hle,hi,zeroValue,hz,hw]
   intro hm0; have:=hz0 hm0; subst this; rw [hzc] at hw; simp at hw; simp [hw]
 ·have hn':¬ (281474976710656<Builtin.nextslicecap (L+m) C*it.bytes):=by omega
  have hle:¬ (L+m≤C):=by omega
  have h63':¬ ((9223372036854775807:Int)<((L:Int)+(m:Int))):=by omega
  simp [Builtin.append_,run_underlying ht,run_underlying hu,sizeOf,typeInfo,asInt,asIntOf,hwrap,h1,h2,hle,hn',h63',hi,Question.forced,ho,zeroValue,hz,newRow,grownCap]
  intro hm0; have:=hz0 hm0; subst this; rw [hzc]; simp
theorem R5 {φ:B6} {w:World} (g:Gam ρ B h n φ w) {p:K4} {cs y:Cs} {sup:Bool} {prev:Option K4} {b s tot off m:Nat} (hp:AL p h=some (.c cs sup prev)) (hφ:φ p=some (b,s,tot)) (hyl:y.len=m) (hya:∀ i,i<m->y.at i=cs.at (off+i)) :
  ∃ vs:List Value,vs.length=m∧(∀ v∈vs,v.oneCell'=true)∧Ek ρ φ y (fun i=>vs[i]?) ∧ ∀ w':World,w'.heap=w.heap->(loadCells ⟨b,s+off,none⟩ m).run P w' = .ok vs.toArray w':=by
 obtain ⟨c,e,fr,k1,k2,k3,k4,k5⟩:=g.obj p _ b s tot hp hφ
 have hr:=Gy k5 hyl hya
 obtain ⟨vs,q1,q2,q3,q4⟩:=Iq hr
 refine ⟨vs,by rw [q1,hyl],q3,fun i v hv=>?_,fun w' hw'=>?_⟩
 ·have hi:=Cs.lt_of_at hv
  obtain ⟨x,hx,hrx,ho⟩:=hr i v hv
  have:=q2 i _ (List.getElem?_eq_getElem (by rw [q1]; exact hi))
  have hx':c[s+(off+i)]? = some x:=hx
  rw [hx'] at this
  cases this
  exact ⟨_,List.getElem?_eq_getElem (by rw [q1]; exact hi),hrx,ho⟩
 ·have hrun:=Fy (P:=P) (w:=w') (off:=s+off) vs (by rw [hw']; exact k1) (fun j v hj=>by have:=q2 j v hj; rwa [←Nat.add_assoc] at this)
  rwa [q1,hyl] at hrun
structure Src (P:Program) (ρ:Env) (φ:B6) (w:World) (ats:Array TypeId) (e:TypeId) (it:TypeInfo) (zv:Value) (x:Value) (m:Nat) (y:Cs):Prop where
 ex:∃ vs:List Value,vs.length=m*it.size∧y.len=m*it.size∧(∀ v∈vs,v.oneCell'=true)∧Ek ρ φ y (fun i=>vs[i]?)∧AppSrc P w ats e it zv x m vs
theorem L2 {φ:B6} {z:Cs} {c:Array Value} {xs:List Value} (hc:∀ i:Nat,i<xs.length->c[i]? = xs[i]?) (hl:z.len=xs.length) (hk:Ek ρ φ z fun i=>xs[i]?):Ek ρ φ z fun i=>c[i]?:=fun i v hv=>by
 have hi:=Cs.lt_of_at hv
 obtain ⟨x,hx,hr⟩:=hk i v hv
 exact ⟨x,(hc i (by omega)).trans hx,hr⟩
theorem Oa {φ:B6} {a y z:Cs} {xs ys:List Value} (hz:QD a y z) (ha:a.len=xs.length) (hy:y.len=ys.length) (h1:Ek ρ φ a fun i=>xs[i]?) (h2:Ek ρ φ y fun i=>ys[i]?):Ek ρ φ z fun i=>(xs++ys)[i]?:=fun i v hv=>by
 by_cases hi:i<a.len
 ·rw [hz.2.1 i hi] at hv
  obtain ⟨x,hx,hr⟩:=h1 i v hv
  exact ⟨x,by show (xs++ys)[i]? = some x; rw [List.getElem?_append_left (by omega)]; exact hx,hr⟩
 ·obtain ⟨j,rfl⟩:∃ j,i=a.len+j:=⟨i - a.len,by omega⟩
  rw [hz.2.2 j] at hv
  obtain ⟨x,hx,hr⟩:=h2 j v hv
  exact ⟨x,by show (xs++ys)[a.len+j]? = some x; rw [List.getElem?_append_right (by omega),ha,Nat.add_sub_cancel_left]; exact hx,hr⟩
def U6 (P:Program) (ρ:Env) (B:Nat) (ats:Array TypeId) (e:TypeId) (it:TypeInfo) (zv:Value) (u:V) (m:Nat) (y:Cs) (h:Heap) (n:K4) (v:V) (h1:Heap) (n1:K4):Prop :=
 ∀ (φ:B6) (w:World) (S x:Value) (ty:TypeId),Gam ρ B h n φ w->AG ρ φ u S->Src P ρ φ w ats e it zv x m y →
  ∃ φ' X w',(Builtin.append_ ats ty #[S,x]).run P w = .ok X w'∧Fr h h1 φ φ' n n1 w w'∧Gam ρ B h1 n1 φ' w'∧AG ρ φ' v X
theorem Z7 {need C eb:Nat} (h:(4*need+4096)*eb≤281474976710656) (hC:C<need):Builtin.nextslicecap need C*eb≤281474976710656:=by
 have h1:=nextslicecap_le hC
 exact Nat.le_trans (Nat.mul_le_mul_right eb (show Builtin.nextslicecap need C≤4*need+4096 by omega)) h
theorem VH {need eb:Nat} (h:(4*need+4096)*eb≤281474976710656) (hb:0<eb):need≤9223372036854775807:=by
 have:4*need+4096≤281474976710656:=Nat.le_trans (Nat.le_mul_of_pos_right _ hb) h
 omega
theorem JY {φ:B6} {w:World} {ats:Array TypeId} {e:TypeId} {it:TypeInfo} {zv:Value} {x:Value} {m L C:Nat} {z:Cs} {vs olds:List Value} {base:Option Addr} {ty:TypeId} (hz:zv.cells.size=it.size)
  (ha:AppSrc P w ats e it zv x m vs) (hC:C<L+m) (hb:0<it.bytes) (hfit:(4*(L+m)+4096)*it.bytes≤281474976710656) (ho:(Builtin.firstCells it.size L (.slice base L C)).run P w.drew = .ok olds.toArray w.drew)
  (hvl:vs.length=m*it.size) (hol:olds.length=L*it.size) (hzl:z.len=olds.length+vs.length) (hcs:Ek ρ φ z fun i=>(olds++vs)[i]?) :
  ∃ (cap:Nat) (c:Array Value),L+m≤cap∧c.size=cap*it.size∧z.len≤c.size∧Ek ρ φ z (fun i=>c[i]?) ∧
   (Builtin.append_ ats ty #[.slice base L C,x]).run P w = .ok (.slice (some ⟨w.heap.size,0,none⟩) (L+m) cap) (w.drew.alloc (.cells c e)):=by
 have hge:=grownCap_ge w (L+m) C e
 have hrun:=ha.grow ty base L C hC (VH hfit hb) (Z7 hfit hC) olds.toArray ho
 have hmul:L*it.size+(m*it.size+(grownCap w (L+m) C e - (L+m))*it.size)=grownCap w (L+m) C e*it.size:=by
  rw [←Nat.add_mul,←Nat.add_mul]; congr 1; omega
 refine ⟨grownCap w (L+m) C e,_,hge,?_,?_,?_,hrun⟩
 ·simp only [Array.size_append,List.size_toArray,size_zeroCells,hol,hvl,hz]; omega
 ·simp only [Array.size_append,List.size_toArray,hzl]; omega
 ·refine L2 (xs:=olds++vs) (fun i hi=>?_) (by rw [hzl]; simp) hcs
  rw [Array.getElem?_append_left (by simpa using hi)]
  simp [Array.getElem?_append,List.getElem?_append]
theorem FV {φ:B6} {p:K4} {b tot m cap esz:Nat} (h1:m≤cap) (h2:cap*esz≤tot):AG ρ (E5 φ p (b,0,tot)) (.sl p 0 m m false esz) (.slice (some ⟨b,0,none⟩) m cap):=by
 simp only [AG]
 exact ⟨b,0,tot,0,cap,BR _ _ _,rfl,Nat.le_refl _,h1,(fun h=>by cases h),fun _=>⟨rfl,by omega⟩⟩
theorem Il {ats:Array TypeId} {e:TypeId} {it:TypeInfo} {zv:Value} {u:V} {m:Nat} {y:Cs} {κ:KV} (hzs:zv.cells.size=it.size) (hs0:0<it.size) (hb0:0<it.bytes)
  (hg:(E2 it.size it.bytes u m y h n κ).good):∃ v h1 n1,E2 it.size it.bytes u m y h n κ=κ v h1 n1∧U6 P ρ B ats e it zv u m y h n v h1 n1:=by
 rcases CC (show R.good (CX u _ _) from hg) with ⟨hu,e1⟩ | ⟨p,off,len,cap,ex,esz,hu,e1⟩
 ·have e1:E2 it.size it.bytes u m y h n κ=_:=e1
  rw [e1] at hg
  subst hu
  rcases O6 hg with ⟨h2,e2⟩ | ⟨h2,e2⟩
  ·have h2:=Nat.eq_of_beq_eq_true h2
   subst h2
   refine ⟨.nil .sl,h,n,e1.trans e2,fun φ w S x ty g hS hx=>?_⟩
   obtain ⟨vs,hvl,hyl,hv1,hcs,ha⟩:=hx.ex
   have hS:=BW hS
   subst hS
   exact ⟨φ,.slice none 0 0,w,ha.room ty none 0 0 (by omega) w rfl,Fr.refl h φ n w,g,by simp only [AG,C7]⟩
  ·rw [e2] at hg
   obtain ⟨h3,e3⟩:=Ao hg
   rw [e3] at hg
   have h3:(4*m+4096)*it.bytes≤281474976710656:=Ap.1 h3
   obtain ⟨n',hn,e4⟩:=Bs hg
   refine ⟨_,_,_,e1.trans (e2.trans (e3.trans e4)),fun φ w S x ty g hS hx=>?_⟩
   obtain ⟨vs,hvl,hyl,hv1,hcs,ha⟩:=hx.ex
   have hS:=BW hS
   subst hS
   have hm:0<m:=Nat.pos_of_ne_zero fun h0=>by subst h0; simp at h2
   obtain ⟨rc,c,k1,k2,k3,k4,k5⟩:=JY (P:=P) (base:=none) (L:=0) (C:=0) (olds:=[]) (z:=y) (ty:=ty) hzs ha (by omega) hb0 (by rw [Nat.zero_add]; exact h3) (by simp [Builtin.firstCells]) hvl (by simp) (by rw [hyl,hvl]; simp) (by simpa using hcs)
   obtain ⟨g1,g2⟩:=Cu g.drew hn (e:=e) (fr:=(0,0)) (c:=c) (cs:=y) k3 (Jv _) k4
   rw [Nat.zero_add] at k1 k5
   exact ⟨_,_,_,k5,Fr.trans Fr.drew g2,g1,FV k1 (by omega)⟩
 ·have e1:E2 it.size it.bytes u m y h n κ=_:=e1
  rw [e1] at hg
  obtain ⟨h2,e2⟩:=Ao hg
  have h2:=Nat.eq_of_beq_eq_true h2
  subst h2
  rw [e2] at hg
  rcases O6 hg with ⟨h3,e3⟩ | ⟨h3,e3⟩
  ·have h3:=Nat.eq_of_beq_eq_true h3
   subst h3
   refine ⟨u,h,n,e1.trans (e2.trans e3),fun φ w S x ty g hS hx=>?_⟩
   obtain ⟨vs,hvl,hyl,hv1,hcs,ha⟩:=hx.ex
   have hS':=hS
   rw [hu] at hS'
   obtain ⟨b,s,tot,q,cap',hφ,gx,c1,c2,c3,c4⟩:=CJ hS'
   have hvs:vs=[]:=List.eq_nil_of_length_eq_zero (by simpa using hvl)
   subst hvs
   subst gx
   exact ⟨φ,_,w,ha.room ty _ len cap' (by omega) w rfl,Fr.refl h φ n w,g,hS⟩
  ·have hm:0<m:=Nat.pos_of_ne_zero fun h0=>by subst h0; simp at h3
   rw [e3,Ah] at hg
   rcases O6 hg with ⟨h4,e4⟩ | ⟨h4,e4⟩
   ·have h4:len+m≤cap:=Ap.1 h4
    rw [e4,Ah] at hg
    obtain ⟨cs,prev,z,hp,hz,e5⟩:=F2 hg
    refine ⟨_,_,n,e1.trans (e2.trans (e3.trans ((Ah _ _).trans (e4.trans ((Ah _ _).trans e5))))),fun φ w S x ty g hS hx=>?_⟩
    obtain ⟨vs,hvl,hyl,hv1,hcs,ha⟩:=hx.ex
    rw [hu] at hS
    obtain ⟨b,s,tot,q,cap',hφ,gx,c1,c2,c3,c4⟩:=CJ hS
    subst gx
    obtain ⟨c5,c6⟩:=c4 (by omega)
    obtain ⟨w',q1,q2,q3⟩:=EW (P:=P) g hp hφ hz (vs:=vs) (by rw [hvl,hyl]) (fun i v hi=>let ⟨x,hx,hr,_⟩:=hcs i v hi; ⟨x,hx,hr⟩) hv1
    refine ⟨φ,_,w',ha.room ty (some ⟨b,q,none⟩) len cap' (by omega) w' ?_,q3,q2,?_⟩
    ·show (storeCells ((⟨b,q,none⟩:Addr).add (len*it.size)) vs).run P w=_
     rw [CT,c5,←q1]; congr 2; simp only [Nat.add_eq,Nat.mul_eq,Nat.add_assoc]
    ·simp only [AG]
     exact ⟨b,s,tot,q,cap',hφ,rfl,h4,c2,c3,c4⟩
   ·rw [e4] at hg
    obtain ⟨h5,e5⟩:=Ao hg
    rw [e5] at hg
    have h5:(4*(len+m)+4096)*it.bytes≤281474976710656:=Ap.1 h5
    have h4:¬ len+m≤cap:=fun h'=>by rw [show Nat.ble (Nat.add len m) cap=true from Ap.2 h'] at h4; cases h4
    obtain ⟨cs,sup,prev,hp,e6⟩:=CS hg
    rw [e6,Ah] at hg
    obtain ⟨hle,a,hal,haa,e7⟩:=Cr hg
    rw [e7] at hg
    obtain ⟨z,hz,e8⟩:=UH a y (fun z=>br ex
       (D2 h n (.c z false none) fun h' n'=>κ (.sl n 0 (Nat.add len m) (Nat.add len m) false it.size) h' n')
       (br sup (.fail "")
        (Ai (Nat.add off (Nat.mul len it.size)) fun j=>BY cs 0 j fun old=>LA prev h fun h=>Fo p h (some (.c old true none)) fun h =>
         D2 h n (.c z false (some p)) fun h' n'=>κ (.sl n 0 (Nat.add len m) (Nat.add len m) false it.size) h' n')))
    have e8:=e8
    rw [e8] at hg
    have hal:a.len=len*it.size:=hal
    have head:=e1.trans (e2.trans (e3.trans ((Ah _ _).trans (e4.trans (e5.trans (e6.trans ((Ah _ _).trans (e7.trans e8))))))))
    -- what the old slice holds
    have oldv:∀ φ w,Gam ρ B h n φ w->∀ b s tot q cap',φ p=some (b,s,tot)->len≤cap'->(0<cap'->q=s+off∧q+cap'*it.size≤tot) →
      ∃ olds:List Value,olds.length=len*it.size∧Ek ρ φ a (fun i=>olds[i]?)∧(∀ v∈olds,v.oneCell'=true)∧(Builtin.firstCells it.size len (.slice (some ⟨b,q,none⟩) len cap')).run P w.drew = .ok olds.toArray w.drew:=fun φ w g b s tot q cap' hφ hlc c4=>by
     obtain ⟨olds,o1,o2,o3,o4⟩:=R5 (P:=P) g hp hφ hal (fun i hi=>haa i hi)
     refine ⟨olds,o1,o3,o2,?_⟩
     rcases Nat.eq_zero_or_pos cap' with h0 | h0
     ·have hl0:len=0:=by omega
      subst hl0
      have:olds=[]:=List.eq_nil_of_length_eq_zero (by simpa using o1)
      subst this
      simp [Builtin.firstCells]; rfl
     ·rw [(c4 h0).1]
      exact o4 w.drew rfl
    cases ex with
    | true =>
     obtain ⟨n',hn,e9⟩:=Bs (show R.good (D2 h n (.c z false none) fun h' n'=>κ (.sl n 0 (Nat.add len m) (Nat.add len m) false it.size) h' n') from hg)
     refine ⟨_,_,_,head.trans e9,fun φ w S x ty g hS hx=>?_⟩
     obtain ⟨vs,hvl,hyl,hv1,hcs,ha⟩:=hx.ex
     rw [hu] at hS
     obtain ⟨b,s,tot,q,cap',hφ,gx,c1,c2,c3,c4⟩:=CJ hS
     subst gx
     have hcap:=c3 rfl
     obtain ⟨olds,o1,o2,o3,o4⟩:=oldv φ w g b s tot q cap' hφ (by omega) c4
     obtain ⟨rc,c,k1,k2,k3,k4,k5⟩:=JY (P:=P) (z:=z) (ty:=ty) hzs ha (by omega) hb0 h5 o4 hvl o1 (by rw [hz.1,hal,hyl,o1,hvl]) (Oa hz (by rw [hal,o1]) (by rw [hyl,hvl]) o2 hcs)
     obtain ⟨g1,g2⟩:=Cu g.drew hn (e:=e) (fr:=(0,0)) (c:=c) (cs:=z) k3 (Jv _) k4
     exact ⟨_,_,_,k5,Fr.trans Fr.drew g2,g1,FV k1 (by omega)⟩
    | false =>
     have eF:∀ (A C:R),br false A C=C:=fun _ _=>rfl
     rw [eF] at hg
     obtain ⟨h9,e9⟩:=Fm hg
     subst h9
     rw [eF,Ah] at hg
     obtain ⟨hle2,old,hol,hoa,e10⟩:=Cr hg
     rw [e10,Kw,Bt] at hg
     obtain ⟨n',hn,e11⟩:=Bs hg
     refine ⟨_,_,_,head.trans (Eq.trans (eF _ _) (Eq.trans (eF _ _) ((Ah _ _).trans (e10.trans ((Kw _ _ _).trans ((Bt _ _ _ _).trans e11)))))),fun φ w S x ty g hS hx=>?_⟩
     obtain ⟨vs,hvl,hyl,hv1,hcs,ha⟩:=hx.ex
     rw [hu] at hS
     obtain ⟨b,s,tot,q,cap',hφ,gx,c1,c2,c3,c4⟩:=CJ hS
     subst gx
     obtain ⟨olds,o1,o2,o3,o4⟩:=oldv φ w g b s tot q cap' hφ (by omega) c4
     obtain ⟨c,et,fr,k1,k2,k3,k4,k5⟩:=g.obj p _ b s tot hp hφ
     have hcz:=Oa hz (by rw [hal,o1]) (by rw [hyl,hvl]) o2 hcs
     have hb:=g.blk p b s tot hφ
     have hol:old.len=off+len*it.size:=hol
     -- what the new object has beside it
     have hsep:∀ q' o' s' t',AL q' (B5 p (G9 prev h) (some (.c old true none)))=some o'->φ q'=some (b,s',t')->BP (.c z false (some p))=some q':=fun q' o' s' t' hq' hφ'=>by
      by_cases hqp:p=q'
      ·subst hqp; rfl
      ·rw [As _ _ hqp] at hq'
       obtain ⟨r1,r2⟩:=D1 hq'
       rcases g.sep p q' _ o' b s tot s' t' hqp hp r2 hφ hφ' with h' | h'
       ·exact absurd h' r1
       ·have:=g.sup q' p o' _ b s' t' s tot r2 h' hp hφ' hφ
        simp [Ip] at this
     have hsup:∀ q',BP (.c z false (some p))=some q'->φ q'≠none ∧ ∀ o',AL q' (B5 p (G9 prev h) (some (.c old true none)))=some o'->Ip o'=true:=fun q' hq'=>by
      simp only [BP,Option.some.injEq] at hq'; subst hq'
      exact ⟨by rw [hφ]; simp,fun o' ho'=>by rw [AF] at ho'; cases ho'; rfl⟩
     have hzl:z.len=len*it.size+m*it.size:=by rw [hz.1,hal,hyl]
     by_cases hin:len+m≤cap'
     ·obtain ⟨c5,c6⟩:=c4 (by omega)
      have hmul:len*it.size+m*it.size≤cap'*it.size:=by rw [←Nat.add_mul]; exact Nat.mul_le_mul_right _ hin
      obtain ⟨c',q1,q2,q3,q4⟩:=Gp (P:=P) vs w b (q+len*it.size) 0 c et fr k1 (by rw [hvl,k2]; omega) (by rw [k2]; exact k4) hv1
      have g2:=g.write (o:=.c cs false prev) (o':=.c old true none) (O:=.cells c' et fr) hp hφ rfl rfl ⟨c',et,fr,Dr hb.2,by rw [q1,k2],by rw [hol]; omega,k4,fun i v hi=>by
       have hlt:=Cs.lt_of_at hi
       rw [hoa i (by have:=hlt; rw [hol] at this; exact this),Nat.zero_add] at hi
       obtain ⟨X,hX,hr⟩:=k5 i v hi
       exact ⟨X,by show c'[s+i]? = some X; rw [q2 (s+i) (by rw [hol] at hlt; omega)]; exact hX,hr⟩⟩
      have g3:=g2.add hn (ob:=.c z false (some p)) (b:=b) (s:=s+off) (tot:=tot) (by rw [DT]; exact hb) ⟨c',et,fr,Dr hb.2,by rw [q1,k2],by rw [hzl]; omega,k4,Fi (CN g.at_n) fun i v hi=>by
       by_cases hia:i<a.len
       ·rw [hz.2.1 i hia,haa i (by have:=hia; rw [hal] at this; exact this)] at hi
        obtain ⟨X,hX,hr⟩:=k5 (off+i) v hi
        exact ⟨X,by show c'[s+off+i]? = some X; rw [Nat.add_assoc,q2 (s+(off+i)) (by rw [hal] at hia; omega)]; exact hX,hr⟩
       ·obtain ⟨j,rfl⟩:∃ j,i=a.len+j:=⟨i - a.len,by omega⟩
        rw [hz.2.2 j] at hi
        obtain ⟨X,hX,hr⟩:=hcs j v hi
        refine ⟨X,?_,hr⟩
        have:=q3 j X hX
        show c'[s+off+(a.len+j)]? = some X
        rw [←this]; congr 1; rw [hal]; omega⟩ hsep hsup (fun q' o' s' t' hq' hφ'=>by
       have:=hsep q' o' s' t' hq' hφ'
       simp only [BP,Option.some.injEq] at this; subst this
       rw [AF] at hq'; cases hq'; rfl)
      refine ⟨_,_,_,ha.room ty (some ⟨b,q,none⟩) len cap' hin _ (by show (storeCells ((⟨b,q,none⟩:Addr).add (len*it.size)) vs).run P w=_; rw [CT]; exact q4),
       Fr.trans (Fr.write (o:=.c cs false prev) hp hφ) (Fr.add g.at_n hn _ (.inr ⟨p,s,tot,hφ,by rw [AF]; simp⟩)),g3,?_⟩
      simp only [AG]
      exact ⟨b,s+off,tot,q,cap',BR _ _ _,rfl,Nat.le_refl _,hin,(fun h=>by cases h),fun _=>⟨by omega,c6⟩⟩
     ·obtain ⟨rc,c',r1,r2,r3,r4,r5⟩:=JY (P:=P) (z:=z) (ty:=ty) hzs ha (by omega) hb0 h5 o4 hvl o1 (by rw [hz.1,hal,hyl,o1,hvl]) hcz
      have g2:=g.write (o:=.c cs false prev) (o':=.c old true none) (O:=.cells c et fr) hp hφ rfl rfl ⟨c,et,fr,Dr hb.2,k2,by rw [hol]; have:=k3; omega,k4,fun i v hi=>by
       have hlt:=Cs.lt_of_at hi
       rw [hoa i (by have:=hlt; rw [hol] at this; exact this),Nat.zero_add] at hi
       exact k5 i v hi⟩
      have f2:=Fr.write (o:=.c cs false prev) (o':=some (.c old true none)) (n:=n) (w:=w) (O:=.cells c et fr) hp hφ
      rw [QO k1] at g2 f2
      have g3:=(g2.drew.push (.cells c' e)).add hn (ob:=.c z false (some p)) (b:=w.heap.size) (s:=0) (tot:=c'.size) (by rw [World.size_alloc]; have:=g.base; exact ⟨this,Nat.lt_succ_self _⟩)
       ⟨c',e,(0,0),HS (w:=w.drew),rfl,by omega,Jv _,Fi (CN g.at_n) fun i v hi=>by rw [Nat.zero_add]; exact r4 i v hi⟩
       (fun q' o' s' t' _ hφ'=>by have:=(g.blk q' _ s' t' hφ').2; omega) hsup (fun q' o' s' t' _ hφ'=>by have:=(g.blk q' _ s' t' hφ').2; omega)
      exact ⟨_,_,_,r5,Fr.trans f2 (Fr.trans Fr.drew (Fr.push_add g.at_n hn _ _)),g3,FV r1 (by rw [r2]; exact Nat.le_refl _)⟩
theorem RL (φ:B6) (s:ByteArray):Ek ρ φ (.b s.size (B7 s.data.toList)) (fun i=>(s.data.toList.map fun b=>Value.int .u8 b.toNat)[i]?):=fun i v hv=>by
 have hi:i<s.size:=Cs.lt_of_at hv
 rw [Cs.b_pos hi] at hv
 have hi':i<s.data.toList.length:=by rw [BI]; exact hi
 rw [I6 _ _ hi'] at hv
 cases hv
 have hlt:=s.data.toList[i].toNat_lt
 refine ⟨.int .u8 (s.data.toList[i].toNat:Nat),?_,?_,rfl⟩
 ·show (s.data.toList.map fun b=>Value.int .u8 b.toNat)[i]? = _
  rw [List.getElem?_map,List.getElem?_eq_getElem hi']; rfl
 ·simp only [AG]
  exact ⟨by simp [Mk]; exact hlt,by rw [AA (by simp [Hk]; exact hlt)]⟩
def WF (P:Program) (ρ:Env) (B:Nat) (v:V) (h:Heap) (n:K4) (esz m:Nat) (y:Cs):Prop :=
 y.len=m*esz ∧ ∀ φ w X,Gam ρ B h n φ w->AG ρ φ v X->∃ vs:List Value,vs.length=m*esz∧(∀ x∈vs,x.oneCell'=true)∧Ek ρ φ y (fun i=>vs[i]?)∧(∀ w,(Builtin.lenOf X).run P w = .ok m w) ∧
  ∀ (k:Nat) (w':World),k≤m->w'.heap=w.heap->(Builtin.firstCells esz k X).run P w' = .ok (vs.take (k*esz)).toArray w'
theorem II:∀ (m i:Nat),(J5 m i).length=m
 | 0,_=>rfl
 | m+1,i=>congrArg (· + 1) (II m (i+1))
theorem Om:∀ {m i j:Nat},j<m->(J5 m i)[j]? = some (.oth (.sy .i64 (i+j)))
 | 0,_,_,h=>by omega
 | m+1,i,0,_=>rfl
 | m+1,i,j+1,h=>by
  have e:(J5 (m+1) i)[j+1]? = (J5 m (i+1))[j]?:=rfl
  rw [e,Om (by omega),show i+1+j=i+(j+1) by omega]
theorem Ms {esz:Nat} {v:V} {κ:Nat->Cs->R} (hg:(N9 esz v h κ).good):∃ m y,N9 esz v h κ=κ m y∧WF P ρ B v h n esz m y:=by
 cases v with
 | sl p off len cap ex esz' =>
  obtain ⟨h1,e1⟩:=Ao (show R.good (br (Nat.beq esz' esz) _ _) from hg)
  have h1:=Nat.eq_of_beq_eq_true h1
  subst h1
  have e1:N9 esz' (.sl p off len cap ex esz') h κ=_:=e1
  rw [e1] at hg
  obtain ⟨cs,sup,prev,hp,e2⟩:=CS hg
  rw [e2,Ah] at hg
  obtain ⟨hle,y,hyl,hya,e3⟩:=Cr hg
  have hyl:y.len=len*esz':=hyl
  refine ⟨len,y,e1.trans (e2.trans ((Ah _ _).trans e3)),hyl,fun φ w X g hX=>?_⟩
  obtain ⟨b,s,tot,q,cap',hφ,gx,c1,c2,c3,c4⟩:=CJ hX
  subst gx
  obtain ⟨c,e,fr,k1,k2,k3,k4,k5⟩:=g.obj p _ b s tot hp hφ
  have hr:=Gy k5 hyl (fun i hi=>hya i hi)
  obtain ⟨vs,q1,q2,q3,q4⟩:=Iq hr
  refine ⟨vs,by rw [q1,hyl],q3,fun i u hu=>?_,fun w=>rfl,fun k w' hk hw'=>?_⟩
  ·have hi:=Cs.lt_of_at hu
   obtain ⟨x,hx,hrx,ho⟩:=hr i u hu
   have:=q2 i _ (List.getElem?_eq_getElem (by rw [q1]; exact hi))
   have hx':c[s+(off+i)]? = some x:=hx
   rw [hx'] at this
   cases this
   exact ⟨_,List.getElem?_eq_getElem (by rw [q1]; exact hi),hrx,ho⟩
  ·show (loadCells ⟨b,q,none⟩ (k*esz')).run P w'=_
   have hlen:(vs.take (k*esz')).length=k*esz':=by rw [List.length_take,q1,hyl]; exact Nat.min_eq_left (Nat.mul_le_mul_right _ hk)
   rcases Nat.eq_zero_or_pos cap' with h0 | h0
   ·have hk0:k=0:=by omega
    subst hk0
    simp; rfl
   ·have hrun:=Fy (P:=P) (w:=w') (off:=s+off) (vs.take (k*esz')) (by rw [hw']; exact k1) (fun j v hj=>by
     have hj':vs[j]? = some v:=by
      rw [List.getElem?_take] at hj
      split at hj
      ·exact hj
      ·cases hj
     have:=q2 j v hj'; rwa [←Nat.add_assoc] at this)
    rw [hlen] at hrun
    rw [(c4 h0).1]; exact hrun
 | str m c =>
  obtain ⟨h1,e1⟩:=Ao (show R.good (br (Nat.beq esz 1) _ _) from hg)
  have h1:=Nat.eq_of_beq_eq_true h1
  subst h1
  refine ⟨m,.b m c,e1,by simp [Cs.len],fun φ w X g hX=>?_⟩
  obtain ⟨s,gx,hs,hc⟩:=Cg hX
  subst gx hs hc
  refine ⟨s.data.toList.map fun b=>Value.int .u8 b.toNat,by simp [BI],by simp [Value.oneCell'],RL φ s,fun w=>rfl,fun k w' hk _=>?_⟩
  have:(s.extract 0 k).data.map (fun b:UInt8=>Value.int .u8 b.toNat)=((s.data.toList.map fun b=>Value.int .u8 b.toNat).take (k*1)).toArray:=by
   apply Array.ext'
   simp [ByteArray.data_extract,List.map_take]
  simp only [Builtin.firstCells,Sem.run_pure,this]
 | nil w =>
  cases w with
  | sl =>
   refine ⟨0,.l [],rfl,by simp [Cs.len],fun φ w X g hX=>?_⟩
   have:=BW hX
   subst this
   exact ⟨[],by simp,by simp,fun i v hv=>by simp [Cs.at] at hv,fun w=>rfl,fun k w' _ _=>by simp [C7,Builtin.firstCells]⟩
  | _=>exact hg.elim
 | oth oo =>
  cases oo with
  | ro i l0 l1 z =>
   have hg':R.good (br (Nat.beq z esz) (br (Nat.beq l0 l1) (br (and (Nat.ble 1 i) (Nat.ble i 18446744073709551615)) (Ai (Nat.mul l0 esz) fun m=>κ l0 (.l (J5 m i))) (.fail "")) (.fail "")) (.fail "")):=hg
   obtain ⟨h1,e1⟩:=Ao hg'
   rw [e1] at hg'
   obtain ⟨h2,e2⟩:=Ao hg'
   rw [e2] at hg'
   obtain ⟨h3,e3⟩:=Ao hg'
   have h1:=Nat.eq_of_beq_eq_true h1
   have h2:=Nat.eq_of_beq_eq_true h2
   rw [Bool.and_eq_true] at h3
   have h3':=Ap.1 h3.2
   have h3:=Ap.1 h3.1
   subst h1
   subst h2
   refine ⟨l0,.l (J5 (l0*z) i),e1.trans (e2.trans (e3.trans (Ah _ _))),II _ _,fun φ w X g hX=>?_⟩
   simp only [AG] at hX
   obtain ⟨b,q,len,cap,c,e,fr,rfl,c1,c2,c3,c4,c5⟩:=hX
   obtain rfl:len=l0:=by omega
   have one:∀ j y,Lb ρ i j y->y.oneCell'=true:=fun j y hy=>by
    rcases hy with ⟨_,b,rfl⟩ | ⟨_,_,_,r,_,rfl⟩ | ⟨_,_,b,rfl,_⟩ | ⟨_,_,r,_,rfl,_⟩ | ⟨_,y0,rfl,_,_,_⟩ <;> rfl
   obtain ⟨vs,hl,AL⟩:∃ vs:List Value,vs.length=len*z ∧ ∀ j,j<len*z->vs[j]? = c[q+j]?:=by
    refine ⟨(List.range (len*z)).map fun j=>(c[q+j]?).getD undef,by simp,fun j hj=>?_⟩
    obtain ⟨y,y1,_⟩:=c5 j hj
    rw [List.getElem?_map,List.getElem?_range hj]
    simp [y1]
   refine ⟨vs,hl,fun x hx=>?_,fun j v hv=>?_,fun w=>rfl,fun k w' hk hw'=>?_⟩
   ·obtain ⟨j,hj,rfl⟩:=List.getElem_of_mem hx
    have hj':j<len*z:=by rw [←hl]; exact hj
    obtain ⟨y,y1,y2⟩:=c5 j hj'
    have e5:=AL j hj'
    rw [y1,List.getElem?_eq_getElem hj] at e5
    rw [Option.some.inj e5]
    exact one j y y2
   ·have hj:=Cs.lt_of_at hv
    have hj:j<len*z:=by rw [←II (len*z) i]; exact hj
    have hv:(J5 (len*z) i)[j]? = some v:=hv
    rw [Om hj] at hv
    cases hv
    obtain ⟨y,y1,y2⟩:=c5 j hj
    refine ⟨y,(AL j hj).trans y1,?_,one j y y2⟩
    rcases y2 with ⟨h,_⟩ | ⟨_,_,h5,r,h6,h7⟩ | ⟨h,_⟩ | ⟨h,_⟩ | ⟨h,_⟩
    ·omega
    ·simp only [AG]; exact ⟨h5,r,h6,h7⟩
    ·omega
    ·omega
    ·omega
   ·show (loadCells ⟨b,q,none⟩ (k*z)).run P w'=_
    have hlen:(vs.take (k*z)).length=k*z:=by rw [List.length_take,hl]; exact Nat.min_eq_left (Nat.mul_le_mul_right _ hk)
    have hrun:=Fy (P:=P) (w:=w') (off:=q) (vs.take (k*z)) (by rw [hw']; exact (g.glob b c e fr c4).2) (fun j v hj=>by
     have hj':vs[j]? = some v:=by
      rw [List.getElem?_take] at hj
      split at hj
      ·exact hj
      ·cases hj
     have hlt:j<len*z:=by rw [←hl]; exact (List.getElem?_eq_some_iff.1 hj').1
     rw [←AL j hlt]; exact hj')
    rw [hlen] at hrun
    exact hrun
  | _=>exact hg.elim
 | _=>exact hg.elim
theorem Rp {ct:Call} {ty t1 e:TypeId} {d:TypeDesc} {x y:Operand} {x' y':Opd} {s eb:Nat} {z:List V} (ho:o.op = .call ct) (hb:ct.callee = .builtin .append) (hts:ct.argTypes.toList=[ty,t1]) (hargs:ct.args.toList=[x,y])
  (hx:AY N x=some x') (hy:AY N y=some y') (ht:P.underlying ty=some (.slice e)) (hu:P.underlying t1=some d) (hd:∀ k,d ≠ .int k) (hs:Bw P e=some s) (hbe:EI P e=some eb) (hz:D9 P e=some z)
  (hsz:s=z.length) (h0:0<s) (hb0:0<eb):CB P ρ B N o (Lj s eb x' y' cf t h n) t h n:=by
 intro κ hg
 have e1:Lj s eb x' y' cf t h n κ=N9 s (ev y' t) h fun m c=>E2 s eb (ev x' t) m c h n κ:=by simp only [Lj,AS]
 rw [e1] at hg
 obtain ⟨m,c,e2,hcl,hsrc⟩:=Ms (P:=P) (ρ:=ρ) (B:=B) (n:=n) hg
 rw [e2] at hg
 obtain ⟨zv,it,hi,hzv,hr⟩:=CY (ρ:=ρ) hz
 have hits:it.size=s:=by unfold Bw at hs; rw [hi] at hs; simpa using hs
 have hitb:it.bytes=eb:=by unfold EI at hbe; rw [hi] at hbe; simpa using hbe
 subst hits hitb
 have hzs:zv.cells.size=it.size:=by have:=Bf (hr (fun _=>none)).1; simp at this; rw [this,hsz]
 obtain ⟨v,h1,n1,e3,H⟩:=Il (P:=P) (ρ:=ρ) (B:=B) (ats:=#[ty,t1]) (e:=e) hzs h0 hb0 hg
 have hargs':ct.args = #[x,y]:=by rw [←hargs]
 have hts':ct.argTypes = #[ty,t1]:=by rw [←hts]
 refine ⟨v,h1,n1,e1.trans (e2.trans e3),.value fun φ a w hT g=>?_⟩
 obtain ⟨vs,q1,q2,q3,q4,q5⟩:=hsrc φ w _ g (Am hy hT)
 obtain ⟨φ',X,w',r1,r2,r3,r4⟩:=H φ w (a.eval x) (a.eval y) o.type g (Am hx hT) ⟨vs,q1,hcl,q2,q3,MX ht hi hzv hb0 hu hd q4 fun w' hw'=>by
  have:=q5 m w' (Nat.le_refl _) hw'
  rwa [List.take_of_length_le (by omega)] at this⟩
 exact ⟨φ',X,w',DG ho hb fun cs=>by simp [builtin,hargs',hts',r1],r2,r3,r4⟩
theorem PC {ct:Call} {ty t1 e:TypeId} {ku:IntKind} {x y:Operand} {x' y':Opd} {s eb:Nat} {z:List V} (ho:o.op = .call ct) (hb:ct.callee = .builtin .append) (hts:ct.argTypes.toList=[ty,t1]) (hargs:ct.args.toList=[x,y])
  (hx:AY N x=some x') (hy:AY N y=some y') (ht:P.underlying ty=some (.slice e)) (hu:P.underlying t1=some (.int ku)) (hs:Bw P e=some s) (hbe:EI P e=some eb) (hz:D9 P e=some z)
  (hsz:s=z.length) (h0:0<s) (hb0:0<eb):CB P ρ B N o (IP s eb (L9 z) z x' y' cf t h n) t h n:=by
 intro κ hg
 have e1:IP s eb (L9 z) z x' y' cf t h n κ=Iw (ev y' t) fun m=>br (Nat.ble (Nat.mul eb m) 281474976710656) (EH (L9 z) z m fun c=>E2 s eb (ev x' t) m c h n κ) (.fail ""):=by simp only [IP,AS]
 rw [e1] at hg
 obtain ⟨k,m,hyv,hm,e2⟩:=De hg
 rw [e2] at hg
 obtain ⟨h3,e3⟩:=Ao hg
 have h3:eb*m≤281474976710656:=Ap.1 h3
 rw [e3] at hg
 obtain ⟨c,e4,hcl,hca⟩:=GN (L9 z) z m (fun c=>E2 s eb (ev x' t) m c h n κ) MS
 rw [e4] at hg
 obtain ⟨zv,it,hi,hzv,hr⟩:=CY (ρ:=ρ) hz
 have hits:it.size=s:=by unfold Bw at hs; rw [hi] at hs; simpa using hs
 have hitb:it.bytes=eb:=by unfold EI at hbe; rw [hi] at hbe; simpa using hbe
 subst hits hitb
 have hzs:zv.cells.size=it.size:=by have:=Bf (hr (fun _=>none)).1; simp at this; rw [this,hsz]
 obtain ⟨v,h1,n1,e5,H⟩:=Il (P:=P) (ρ:=ρ) (B:=B) (ats:=#[ty,t1]) (e:=e) hzs h0 hb0 hg
 have hargs':ct.args = #[x,y]:=by rw [←hargs]
 have hts':ct.argTypes = #[ty,t1]:=by rw [←hts]
 refine ⟨v,h1,n1,e1.trans (e2.trans (e3.trans (e4.trans e5))),.value fun φ a w hT g=>?_⟩
 have g2:=Am hy hT
 rw [hyv] at g2
 have gy:=EP hm g2
 have hcells:∀ (i:Nat) (v:V),i<m*z.length->z[i % z.length]? = some v->∃ x,(Builtin.zeroCells zv.cells m).toList[i]? = some x∧AG ρ φ v x∧x.oneCell'=true:=fun i v hi hv=>by
  obtain ⟨x,hx,hrx⟩:=Dv (hr φ).1 (hr φ).2 (k:=m*zv.cells.size) (by rw [hzs,hsz]; exact hi) hv
  refine ⟨x,?_,hrx⟩
  rw [Array.getElem?_toList]
  exact hx
 obtain ⟨φ',X,w',r1,r2,r3,r4⟩:=H φ w (a.eval x) (.int k m) o.type g (Am hx hT) ⟨(Builtin.zeroCells zv.cells m).toList,by simp [size_zeroCells,hzs],by rw [hcl,hsz],fun u hu=>by
   obtain ⟨i,hi',rfl⟩:=List.getElem_of_mem hu
   have hlt:i<m*z.length:=by simpa [size_zeroCells,hzs,hsz] using hi'
   have hzp:i % z.length<z.length:=Nat.mod_lt _ (by omega)
   obtain ⟨x,hx,_,hox⟩:=hcells i _ hlt (List.getElem?_eq_getElem hzp)
   rw [List.getElem?_eq_getElem hi'] at hx
   cases hx; exact hox,fun i v hv=>by
   have hlt:=Cs.lt_of_at hv
   rw [hcl] at hlt
   rw [hca i hlt] at hv
   exact hcells i v hlt hv,OS ht hi hzv hb0 h0 hu (by rw [Nat.mul_comm]; exact h3)⟩
 exact ⟨φ',X,w',DG ho hb fun cs=>by simp [builtin,hargs',hts',gy,r1],r2,r3,r4⟩
end
end Go.Ev

namespace Go.Ev
set_option linter.unusedVariables false
section
variable {P:Program} {ρ:Env} {B N:Nat} {o:Oper} {cf:CF} {t:Regs} {h:Heap} {n:K4}
theorem Ro {ct:Call} {ty e:TypeId} {ts:List TypeId} {x y:Operand} {x' y':Opd} {s:Nat} (ho:o.op = .call ct) (hb:ct.callee = .builtin .copy) (hts:ct.argTypes.toList=ty::ts) (hargs:ct.args.toList=[x,y])
  (hx:AY N x=some x') (hy:AY N y=some y') (ht:P.underlying ty=some (.slice e)) (hs:Bw P e=some s):CB P ρ B N o (Lw s x' y' cf t h n) t h n:=by
 intro κ hg
 have e1:Lw s x' y' cf t h n κ=N9 s (ev y' t) h fun m y=>CX (ev x' t) (κ (.int .i64 0) h n) (fun p off len cap ex esz'=>br (Nat.beq esz' s) (br (Nat.beq (@Bool.rec (fun _=>Nat) len m (Nat.ble m len)) 0) (κ (.int .i64 0) h n) (BY y 0 (Nat.mul (@Bool.rec (fun _=>Nat) len m (Nat.ble m len)) s) fun y=>Eb h p off y fun h=>Gb (@Bool.rec (fun _=>Nat) len m (Nat.ble m len)) fun v=>κ v h n)) (.fail "")):=by
  simp only [Lw,AS,Ah]
 rw [e1] at hg
 obtain ⟨m,c,e2,hcl,hsrc⟩:=Ms (P:=P) (ρ:=ρ) (B:=B) (n:=n) hg
 rw [e2] at hg
 have hargs':ct.args = #[x,y]:=by rw [←hargs]
 have hts':ct.argTypes[0]? = some ty:=by rw [←Array.getElem?_toList,hts]; rfl
 rcases CC hg with ⟨hv,e3⟩ | ⟨p,off,len,cap,ex,esz,hv,e3⟩
 ·refine ⟨_,h,n,e1.trans (e2.trans e3),.value fun φ a w hT g=>?_⟩
  obtain ⟨vs,q1,q2,q3,q4,q5⟩:=hsrc φ w _ g (Am hy hT)
  have g1:=Am hx hT
  rw [hv] at g1
  have gx:=BW g1
  have h0:=q5 0 w (Nat.zero_le _) rfl
  refine ⟨φ,goInt 0,w,DG ho hb fun cs=>?_,Fr.refl h φ n w,g,DA (by decide) φ⟩
  simp [builtin,Builtin.copy_,hts',hargs',gx,C7,run_underlying ht,q4,Bh hs]
  simp at h0
  simp [h0]
 ·rw [e3] at hg
  obtain ⟨h4,e4⟩:=Ao hg
  have h4:=Nat.eq_of_beq_eq_true h4
  subst h4
  rw [e4] at hg
  have hk:(@Bool.rec (fun _=>Nat) len m (Nat.ble m len))=Nat.min m len:=by
   cases hb:Nat.ble m len with
   | true=>have:=Ap.1 hb; show m=Nat.min m len; exact (Nat.min_eq_left this).symm
   | false =>
    have:¬ m≤len:=fun h=>by rw [Ap.2 h] at hb; cases hb
    show len=Nat.min m len; exact (Nat.min_eq_right (by omega)).symm
  have e5:=hk
  generalize (@Bool.rec (fun _=>Nat) len m (Nat.ble m len))=k at hg e1 e2 e3 e4 hk
  have hkm:k≤m:=by rw [hk]; exact Nat.min_le_left _ _
  have hkl:k≤len:=by rw [hk]; exact Nat.min_le_right _ _
  rcases O6 hg with ⟨h6,e6⟩ | ⟨h6,e6⟩
  ·have h6:=Nat.eq_of_beq_eq_true h6
   subst h6
   refine ⟨_,h,n,e1.trans (e2.trans (e3.trans (e4.trans e6))),.value fun φ a w hT g=>?_⟩
   obtain ⟨vs,q1,q2,q3,q4,q5⟩:=hsrc φ w _ g (Am hy hT)
   have g1:=Am hx hT
   rw [hv] at g1
   obtain ⟨b,s,tot,q,cap',hφ,gx,c1,c2,c3,c4⟩:=CJ g1
   have h0:=q5 0 w (Nat.zero_le _) rfl
   simp at h0
   refine ⟨φ,goInt 0,w,DG ho hb fun cs=>?_,Fr.refl h φ n w,g,DA (by decide) φ⟩
   have hst:(storeCells (⟨b,q,none⟩:Addr) []).run P w = .ok () w:=rfl
   simp [builtin,Builtin.copy_,hts',hargs',gx,run_underlying ht,q4,Bh hs,←hk,h0,hst]
  ·rw [e6] at hg
   obtain ⟨hle,z,hzl,hza,e7⟩:=Cr hg
   rw [e7] at hg
   obtain ⟨cs,prev,zz,hp,hz,e8⟩:=F2 hg
   rw [e8] at hg
   obtain ⟨h9,e9⟩:=Fz hg
   have hzl:z.len=k*esz:=hzl
   have hk0:0<k:=Nat.pos_of_ne_zero fun h=>by subst h; simp at h6
   refine ⟨_,_,n,e1.trans (e2.trans (e3.trans (e4.trans (e6.trans (e7.trans (e8.trans e9)))))),.value fun φ a w hT g=>?_⟩
   obtain ⟨vs,q1,q2,q3,q4,q5⟩:=hsrc φ w _ g (Am hy hT)
   have g1:=Am hx hT
   rw [hv] at g1
   obtain ⟨b,s,tot,q,cap',hφ,gx,c1,c2,c3,c4⟩:=CJ g1
   obtain ⟨c5,c6⟩:=c4 (by omega)
   have hfc:=q5 k w hkm rfl
   have hvl:(vs.take (k*esz)).length=z.len:=by rw [List.length_take,q1,hzl]; exact Nat.min_eq_left (Nat.mul_le_mul_right _ hkm)
   obtain ⟨w',r1,r2,r3⟩:=EW (P:=P) g hp hφ hz (vs:=vs.take (k*esz)) hvl (fun i v hi=>by
    have hlt:=Cs.lt_of_at hi
    rw [hza i (by have:=hlt; rw [hzl] at this; exact this),Nat.zero_add] at hi
    obtain ⟨X,hX,hr,_⟩:=q3 i v hi
    exact ⟨X,by rw [List.getElem?_take,if_pos (by rw [←hzl]; exact hlt)]; exact hX,hr⟩) (fun v hv=>q2 v (List.mem_of_mem_take hv))
   refine ⟨φ,goInt k,w',DG ho hb fun cs=>?_,r3,r2,DA h9 φ⟩
   rw [←c5] at r1
   simp [builtin,Builtin.copy_,hts',hargs',gx,run_underlying ht,q4,Bh hs,←hk,hfc,r1]
theorem RB {ct:Call} {ty e:TypeId} {ts:List TypeId} {x:Operand} {xs:List Operand} {x':Opd} {s:Nat} {z:List V} (ho:o.op = .call ct) (hb:ct.callee = .builtin .clear) (hts:ct.argTypes.toList=ty::ts) (hargs:ct.args.toList=x::xs)
  (hx:AY N x=some x') (ht:P.underlying ty=some (.slice e)) (hs:Bw P e=some s) (hz:D9 P e=some z) (hsz:s=z.length) (h0:0<s):CB P ρ B N o (MM (L9 z) z x' cf t h n) t h n:=by
 intro κ hg
 have e1:MM (L9 z) z x' cf t h n κ=CX (ev x' t) (κ (.tup []) h n) (fun p off len cap ex esz=>br (Nat.beq z.length esz) (br (Nat.beq len 0) (κ (.tup []) h n) (EH (L9 z) z len fun y=>Eb h p off y fun h=>κ (.tup []) h n)) (.fail "")):=by simp only [MM,AS,Dj]
 rw [e1] at hg
 have hargs':ct.args[0]? = some x:=by rw [←Array.getElem?_toList,hargs]; rfl
 have hts':ct.argTypes[0]? = some ty:=by rw [←Array.getElem?_toList,hts]; rfl
 have rt:∀ φ:B6,AG ρ φ (.tup []) (.tuple #[]):=fun φ=>by simp only [AG]; exact ⟨#[],rfl,AR.2 rfl⟩
 rcases CC hg with ⟨hv,e2⟩ | ⟨p,off,len,cap,ex,esz,hv,e2⟩
 ·refine ⟨_,h,n,e1.trans e2,.value fun φ a w hT g=>?_⟩
  have g1:=Am hx hT
  rw [hv] at g1
  have gx:=BW g1
  refine ⟨φ,.tuple #[],w,DG ho hb fun cs=>?_,Fr.refl h φ n w,g,rt φ⟩
  simp [builtin,Builtin.clear_,hts',hargs',gx,C7,run_underlying ht]
 ·rw [e2] at hg
  obtain ⟨h3,e3⟩:=Ao hg
  have h3:=Nat.eq_of_beq_eq_true h3
  rw [e3] at hg
  rcases O6 hg with ⟨h4,e4⟩ | ⟨h4,e4⟩
  ·have h4:=Nat.eq_of_beq_eq_true h4
   subst h4
   refine ⟨_,h,n,e1.trans (e2.trans (e3.trans e4)),.value fun φ a w hT g=>?_⟩
   have g1:=Am hx hT
   rw [hv] at g1
   obtain ⟨b,s',tot,q,cap',hφ,gx,c1,c2,c3,c4⟩:=CJ g1
   refine ⟨φ,.tuple #[],w,DG ho hb fun cs=>?_,Fr.refl h φ n w,g,rt φ⟩
   simp [builtin,Builtin.clear_,hts',hargs',gx,run_underlying ht]
  ·rw [e4] at hg
   obtain ⟨y,e5,hyl,hya⟩:=GN (L9 z) z len (fun y=>Eb h p off y fun h=>κ (.tup []) h n) MS
   rw [e5] at hg
   obtain ⟨cs,prev,zz,hp,hzz,e6⟩:=F2 hg
   refine ⟨_,_,n,e1.trans (e2.trans (e3.trans (e4.trans (e5.trans e6)))),.value fun φ a w hT g=>?_⟩
   have g1:=Am hx hT
   rw [hv] at g1
   obtain ⟨b,s',tot,q,cap',hφ,gx,c1,c2,c3,c4⟩:=CJ g1
   have hl0:0<len:=Nat.pos_of_ne_zero fun h=>by subst h; simp at h4
   obtain ⟨c5,c6⟩:=c4 (by omega)
   obtain ⟨zv,it,hi,hzv,hr⟩:=CY (ρ:=ρ) hz
   have hzs:zv.cells.size=z.length:=by have:=Bf (hr φ).1; simpa using this
   have hzr:∀ w,(zeroValue e).run P w = .ok zv w:=Da (by rw [hi]; exact hzv)
   have hat:∀ i,i<len*z.length->∃ v,z[i % z.length]? = some v:=fun i hi=>by
    have hzp:i % z.length<z.length:=Nat.mod_lt _ (by omega)
    exact ⟨_,List.getElem?_eq_getElem hzp⟩
   obtain ⟨w',r1,r2,r3⟩:=EW (P:=P) g hp hφ hzz (vs:=(Builtin.zeroCells zv.cells len).toList) (by simp [size_zeroCells,hzs,hyl]) (fun i v hi=>by
    have hlt:=Cs.lt_of_at hi
    rw [hyl] at hlt
    rw [hya i hlt] at hi
    obtain ⟨X,hX,hrX,_⟩:=Dv (hr φ).1 (hr φ).2 (k:=len*zv.cells.size) (by rw [hzs]; exact hlt) hi
    exact ⟨X,by rw [Array.getElem?_toList]; exact hX,hrX⟩) (fun u hu=>by
    obtain ⟨i,hi',rfl⟩:=List.getElem_of_mem hu
    have hlt:i<len*z.length:=by simpa [size_zeroCells,hzs] using hi'
    obtain ⟨v,hv⟩:=hat i hlt
    obtain ⟨X,hX,_,hoX⟩:=Dv (hr φ).1 (hr φ).2 (k:=len*zv.cells.size) (by rw [hzs]; exact hlt) hv
    have hX:(Builtin.zeroCells zv.cells len)[i]? = some X:=hX
    rw [←Array.getElem?_toList,List.getElem?_eq_getElem hi'] at hX
    cases hX; exact hoX)
   rw [←c5] at r1
   refine ⟨φ,.tuple #[],w',DG ho hb fun cs=>?_,r3,r2,rt φ⟩
   obtain ⟨m,rfl⟩:∃ m,len=m+1:=⟨len - 1,by omega⟩
   simp [builtin,Builtin.clear_,hts',hargs',gx,run_underlying ht,hzr,r1]
def HV (P:Program) (f:FuncId) (args:Array Value) (w:World) (R:Value->World->Prop):Prop :=
 ∀ (o:Oper) (a:Act) (K:Act->World->Prop) (Q:Exit->Act->World->Prop),(∀ x w',R x w'->K (a.put o.dst x) w')->o.upon P a K Q ((callFunc f args).run P w)
def DU (P:Program) (ρ:Env) (B:Nat) (cf:CF):Prop :=
 ∀ f args h n v h1 n1,cf f args h n = .rv v h1 n1->∀ φ w (xs:Array Value),Gam ρ B h n φ w->Bu ρ φ args xs.toList →
  HV P f xs w fun x w'=>∃ φ',Fr h h1 φ φ' n n1 w w'∧Gam ρ B h1 n1 φ' w'∧AG ρ φ' v x
theorem MB {κ:KV} {r:R} (hg:R.good (@R.rec (fun _=>R) (Fp "") (fun v h n=>κ v h n) (fun w=>.fail w) (Fp "") r)) :
  ∃ v h1 n1,r = .rv v h1 n1∧@R.rec (fun _=>R) (Fp "") (fun v h n=>κ v h n) (fun w=>.fail w) (Fp "") r=κ v h1 n1:=by
 cases r with
 | ok e t h n=>exact hg.elim
 | rv v h1 n1=>exact ⟨v,h1,n1,rfl,rfl⟩
 | fail w=>exact hg.elim
 | both a b=>exact hg.elim
theorem PI {ct:Call} {f:FuncId} {args:List Opd} (hcf:DU P ρ B cf) (ho:o.op = .call ct) (hc:ct.callee = .value (.func f)) (ha:BB N ct.args.toList=some args):CB P ρ B N o (Nr f args cf t h n) t h n:=by
 intro κ hg
 have e1:Nr f args cf t h n κ=@R.rec (fun _=>R) (Fp "") (fun v h n=>κ v h n) (fun w=>.fail w) (Fp "") (cf f (args.map (ev · t)) h n):=by simp only [Nr,EZ]
 rw [e1] at hg
 obtain ⟨v,h1,n1,hr,e2⟩:=MB hg
 refine ⟨v,h1,n1,e1.trans e2,fun φ a w hT g K Q hK=>?_⟩
 have:=hcf f _ h n v h1 n1 hr φ w (ct.args.map a.eval) g (by rw [Array.toList_map]; exact Ew ha hT) o a K Q (fun x w' ⟨φ',f1,g1,r1⟩=>hK φ' x w' f1 g1 r1)
 unfold Oper.wp
 have e3:(execOp a.eval o).run P w=(callFunc f (ct.args.map a.eval)).run P w:=by
  simp [execOp,ho,resolve,hc,Act.eval,Deferred.ofValue,invoke]
 rw [e3]; exact this
theorem ND {ct:Call} {x:Operand} {x':Opd} {args:List Opd} (hcf:DU P ρ B cf) (ho:o.op = .call ct) (hc:ct.callee = .value x) (hx:AY N x=some x') (ha:BB N ct.args.toList=some args):CB P ρ B N o (El x' args cf t h n) t h n:=by
 intro κ hg
 have e1:El x' args cf t h n κ=PT (ev x' t) fun f caps=>@R.rec (fun _=>R) (Fp "") (fun v h n=>κ v h n) (fun w=>.fail w) (Fp "") (cf f (args.map (ev · t)++caps) h n):=by
  simp only [El,AS,EZ,Em]
 rw [e1] at hg
 obtain ⟨f,caps,hxv,e2⟩:=ML hg
 rw [e2] at hg
 obtain ⟨v,h1,n1,hr,e3⟩:=MB hg
 refine ⟨v,h1,n1,e1.trans (e2.trans e3),fun φ a w hT g K Q hK=>?_⟩
 have g1:=Am hx hT
 rw [hxv] at g1
 obtain ⟨cs,gx,hcs⟩:=IA g1
 have:=hcf f _ h n v h1 n1 hr φ w (ct.args.map a.eval++cs) g (by rw [Array.toList_append,Array.toList_map]; exact F4 (Ew ha hT) hcs) o a K Q (fun x w' ⟨φ',f1,g1,r1⟩=>hK φ' x w' f1 g1 r1)
 unfold Oper.wp
 have e3:(execOp a.eval o).run P w=(callFunc f (ct.args.map a.eval++cs)).run P w:=by
  simp [execOp,ho,resolve,hc,gx,Deferred.ofValue,invoke]
 rw [e3]; exact this
theorem RE {why:String}:CB P ρ B N o (R1 why cf t h n) t h n:=fun κ hg=>hg.elim
end
end Go.Ev

namespace Go.Ev
set_option linter.unusedVariables false
section
variable {P:Program} {ρ:Env} {B N:Nat} {o:Oper} {cf:CF} {t:Regs} {h:Heap} {n:K4}
theorem Aw {α β:Type} {x:Option α} {f:α->β} {y:β} (h:x.map f=some y):∃ a,x=some a∧f a=y:=by
 cases x with
 | none=>cases h
 | some a=>exact ⟨a,rfl,by simpa using h⟩
theorem BM {α β:Type} {x:Option α} {f:α->Option β} {y:β} (h:x.bind f=some y):∃ a,x=some a∧f a=some y:=by
 cases x with
 | none=>cases h
 | some a=>exact ⟨a,rfl,h⟩
theorem Br {α:Type} {c:Prop} [Decidable c] {x y:α} (h:(if c then some x else none)=some y):c∧x=y:=by
 split at h
 ·exact ⟨‹c›,by simpa using h⟩
 ·cases h
theorem Kr {e:TypeId} (h:Wa P e=true):P.underlying e=some (.int .u8):=by
 unfold Wa at h
 split at h
 ·assumption
 ·cases h
theorem Lc {ct:Call} {b:Builtin} {args:List Opd} {k:AK} (ho:o.op = .call ct) (hb:ct.callee = .builtin b) (ha:BB N ct.args.toList=some args) (hk:EK P b ct.argTypes args=some k):CB P ρ B N o (H6 k cf t h n) t h n:=by
 have two:∀ {x y:Opd},args=[x,y]->∃ x0 y0,ct.args.toList=[x0,y0]∧AY N x0=some x∧AY N y0=some y:=fun {x y} e=>by
  subst e
  cases hl:ct.args.toList with
  | nil=>rw [hl] at ha; simp [BB] at ha
  | cons x0 l =>
   rw [hl] at ha
   simp only [BB] at ha
   split at ha
   ·rename_i x1 xs1 h1 h2
    cases ha
    cases l with
    | nil=>simp [BB] at h2
    | cons y0 l =>
     simp only [BB] at h2
     split at h2
     ·rename_i y1 ys1 h3 h4
      cases h2
      cases l with
      | nil=>exact ⟨x0,y0,rfl,h1,h3⟩
      | cons z l =>
       simp only [BB] at h4
       split at h4 <;> cases h4
     ·cases h2
   ·cases ha
 have one:∀ {x:Opd} {l:List Opd},args=x::l->∃ x0 l0,ct.args.toList=x0::l0∧AY N x0=some x:=fun {x l} e=>by
  subst e
  cases hl:ct.args.toList with
  | nil=>rw [hl] at ha; simp [BB] at ha
  | cons x0 l0 =>
   rw [hl] at ha
   simp only [BB] at ha
   split at ha
   ·rename_i x1 xs1 h1 h2
    cases ha
    exact ⟨x0,l0,rfl,h1⟩
   ·cases ha
 unfold EK at hk
 split at hk
 ·-- len
  rename_i ty ts x l hts
  obtain ⟨x0,l0,hl,hx⟩:=one rfl
  split at hk
  ·cases hk; exact (LQ (cf:=cf) ho hb hts hl hx (by assumption)).sound
  ·cases hk; exact (Lq (cf:=cf) ho hb hts hl hx (by assumption)).sound
  ·cases hk; exact (Lx (cf:=cf) ho hb hts hl hx (by assumption)).sound
  ·cases hk
 ·obtain ⟨x0,y0,hl,hx,hy⟩:=two rfl
  cases hk; exact (LS (cf:=cf) ho hb hl hx hy).sound
 ·obtain ⟨x0,y0,hl,hx,hy⟩:=two rfl
  cases hk; exact (Mo (cf:=cf) ho hb hl hx hy).sound
 ·obtain ⟨x0,y0,z0,hl,hx,hy,hz⟩:=Gt ha
  cases hk; exact (Ko (cf:=cf) ho hb hl hx hy hz).sound
 ·rename_i ty u x y hts
  obtain ⟨x0,y0,hl,hx,hy⟩:=two rfl
  split at hk
  ·rename_i e ku ht hu
   split at hk
   ·rename_i s b z h1 h2 h3
    obtain ⟨hc,rfl⟩:=Br hk
    simp only [Bool.and_eq_true,beq_iff_eq,decide_eq_true_eq] at hc
    exact PC (cf:=cf) ho hb hts hl hx hy ht hu h1 h2 h3 hc.1.1 hc.1.2 hc.2
   ·cases hk
  ·rename_i e d hd ht hu
   split at hk
   ·rename_i s b z h1 h2 h3
    obtain ⟨hc,rfl⟩:=Br hk
    simp only [Bool.and_eq_true,beq_iff_eq,decide_eq_true_eq] at hc
    exact Rp (cf:=cf) ho hb hts hl hx hy ht hu (fun k e2=>hd k e2) h1 h2 h3 hc.1.1 hc.1.2 hc.2
   ·cases hk
  ·cases hk
 ·rename_i ty ts x y hts
  obtain ⟨x0,y0,hl,hx,hy⟩:=two rfl
  split at hk
  ·rename_i e ht
   split at hk
   ·rename_i s h1
    obtain ⟨hc,rfl⟩:=Br hk
    exact Ro (cf:=cf) ho hb hts hl hx hy ht h1
   ·cases hk
  ·cases hk
 ·rename_i ty ts m k' hts
  obtain ⟨x0,y0,hl,hx,hy⟩:=two rfl
  split at hk
  ·rename_i kt e ht
   obtain ⟨pl,hp,rfl⟩:=Aw hk
   exact Rg (cf:=cf) ho hb hts hl hx hy ht hp
  ·cases hk
 ·rename_i ty ts x l hts
  obtain ⟨x0,l0,hl,hx⟩:=one rfl
  split at hk
  ·cases hk; exact (Mt (cf:=cf) ho hb hts hl hx (by assumption)).sound
  ·cases hk
 ·rename_i ty ts x l hts
  obtain ⟨x0,l0,hl,hx⟩:=one rfl
  split at hk
  ·rename_i e ht
   split at hk
   ·rename_i s z h1 h2
    obtain ⟨hc,rfl⟩:=Br hk
    simp only [Bool.and_eq_true,beq_iff_eq,decide_eq_true_eq] at hc
    exact RB (cf:=cf) ho hb hts hl hx ht h1 h2 hc.1 hc.2
   ·cases hk
  ·cases hk
 ·cases hk
theorem JU (hρ:Bq ρ) (hcf:DU P ρ B cf) {k:AK} (hk:Fa P N o=some k):CB P ρ B N o (H6 k cf t h n) t h n:=by
 unfold Fa at hk
 split at hk
 ·rename_i x ho
  obtain ⟨x',hx,rfl⟩:=Aw hk
  exact (In (cf:=cf) (.inl ho) hx).sound
 ·rename_i x ho
  obtain ⟨x',hx,rfl⟩:=Aw hk
  exact (In (cf:=cf) (.inr ho) hx).sound
 ·rename_i c a b ho
  split at hk
  ·cases hk; exact (KG (cf:=cf) ho (by assumption) (by assumption) (by assumption)).sound
  ·cases hk
 ·rename_i e ho
  obtain ⟨z,hz,rfl⟩:=Aw hk
  exact Rz (cf:=cf) ho hz
 ·rename_i e x ho
  obtain ⟨x',hx,rfl⟩:=Aw hk
  exact Rf (cf:=cf) hρ ho hx
 ·rename_i ty parts ho
  split at hk
  ·rename_i fs z hu hz
   obtain ⟨places,hpl,hk⟩:=BM hk
   obtain ⟨ps,hps,rfl⟩:=Aw hk
   exact (F5 (cf:=cf) hρ ho hz hps fun it zv hi hzv l=>by unfold Program.built; simp only [hi,hu,hzv,hpl]).sound
  ·rename_i m e z hu hz
   obtain ⟨s,hs,hk⟩:=BM hk
   obtain ⟨ps,hps,rfl⟩:=Aw hk
   refine (F5 (cf:=cf) hρ ho hz hps fun it zv hi hzv l=>?_).sound
   unfold Program.built
   unfold Bw at hs
   cases hie:P.info? e with
   | none=>rw [hie] at hs; cases hs
   | some ie=>rw [hie] at hs; cases hs; simp only [hi,hu,hzv,hie]
  ·cases hk
 ·rename_i ty len parts ho
  split at hk
  ·rename_i e hu
   split at hk
   ·rename_i s z hs hz
    split at hk
    ·rename_i hc
     obtain ⟨ps,hps,rfl⟩:=Aw hk
     simp only [Bool.and_eq_true,beq_iff_eq,decide_eq_true_eq] at hc
     exact Nj (cf:=cf) hρ ho hu hs hz hc.1.1 hc.1.2 hc.2 hps
    ·cases hk
   ·cases hk
  ·cases hk
 ·rename_i ty a ho
  split at hk
  ·cases hk; exact (LW (cf:=cf) ho (by assumption) (by assumption) (by assumption)).sound
  ·cases hk; exact (NK (cf:=cf) ho (by assumption) (by assumption)).sound
  ·cases hk
 ·rename_i ty a x ho
  split at hk
  ·cases hk; exact Tr (cf:=cf) hρ ho (by assumption) (by assumption) (by assumption)
  ·cases hk
 ·rename_i x ho
  obtain ⟨x',hx,rfl⟩:=Aw hk
  exact (Jj (cf:=cf) ho hx).sound
 ·rename_i op ty x y yt ho
  split at hk
  ·rename_i a b ha hb
   split at hk
   ·cases hk; exact (CD (cf:=cf) ho ha hb).sound
   ·cases hk; exact (CD (cf:=cf) ho ha hb).sound
   ·cases hk; exact (CD (cf:=cf) ho ha hb).sound
   ·cases hk; exact (CD (cf:=cf) ho ha hb).sound
   ·split at hk
    ·cases hk
    ·rename_i hgd
     obtain ⟨pl,hp,rfl⟩:=Aw hk
     exact (HY (cf:=cf) (neg:=false) ho ha hb hp (by simpa using hgd)).sound
   ·split at hk
    ·cases hk
    ·rename_i hgd
     obtain ⟨pl,hp,rfl⟩:=Aw hk
     exact (HY (cf:=cf) (neg:=true) ho ha hb hp (by simpa using hgd)).sound
   ·cases hk; exact (CD (cf:=cf) ho ha hb).sound
  ·cases hk
 ·rename_i op ty x ho
  split at hk
  ·cases hk; exact (M4 (cf:=cf) ho (by assumption)).sound
  ·cases hk; exact (LM (cf:=cf) ho (by assumption)).sound
  ·cases hk; exact (Md (cf:=cf) ho (by assumption)).sound
  ·cases hk
 ·rename_i src dst x ho
  split at hk
  ·cases hk; exact (Lv (cf:=cf) ho (by assumption) (by assumption) (by assumption)).sound
  ·cases hk; exact (LX (cf:=cf) ho (by assumption) (by assumption) (by assumption)).sound
  ·rename_i e x' hs hd hx
   obtain ⟨hc,rfl⟩:=Br hk
   exact Ry (cf:=cf) ho hx hs hd (Kr hc)
  ·rename_i e x' hs hd hx
   obtain ⟨hc,rfl⟩:=Br hk
   exact (LF (cf:=cf) ho hx hs hd (Kr hc)).sound
  ·rename_i e' e x' hs hd hx
   obtain ⟨hc,rfl⟩:=Br hk
   simp only [Bool.and_eq_true] at hc
   exact RY (cf:=cf) ho hx hs hd hc.1 (Kr hc.2)
  ·cases hk
 ·rename_i fn first caps ho
  split at hk
  ·rename_i f l hf hl
   cases hk
   have:first = #[]:=by cases first; simp_all
   subst this
   exact (Kt (cf:=cf) ho hl).sound
  ·cases hk
 ·cases hk; exact Oq (cf:=cf) (by assumption)
 ·rename_i ty l c ho
  split at hk
  ·rename_i e l' c' hu hl hc
   split at hk
   ·rename_i s b z h1 h2 h3
    obtain ⟨hcc,rfl⟩:=Br hk
    simp only [Bool.and_eq_true,beq_iff_eq,decide_eq_true_eq] at hcc
    exact Q3 (cf:=cf) ho hl hc hu h1 h2 h3 hcc.1.1 hcc.1.2 hcc.2
   ·cases hk
  ·cases hk
 ·rename_i ty x lo hi ho
  split at hk
  ·cases hk; exact (LG (cf:=cf) ho (by assumption) (by assumption) (by assumption) (by assumption)).sound
  ·obtain ⟨s,hs,rfl⟩:=Aw hk
   exact (Mn (cf:=cf) ho (by assumption) (by assumption) (by assumption) (by assumption) hs).sound
  ·obtain ⟨s,hs,rfl⟩:=Aw hk
   exact (Mr (cf:=cf) ho (by assumption) (by assumption) (by assumption) (by assumption) hs).sound
  ·cases hk
 ·rename_i s x f ho
  split at hk
  ·rename_i fs x' hs hx
   obtain ⟨fd,hf,hk⟩:=BM hk
   split at hk
   ·rename_i sz hsz
    cases hk; exact (LJ (cf:=cf) ho hx hs hf hsz).sound
   ·cases hk
  ·cases hk
 ·rename_i s x f ho
  split at hk
  ·rename_i fs x' hs hx
   obtain ⟨fd,hf,hk⟩:=BM hk
   split at hk
   ·cases hk; exact (M8 (cf:=cf) ho hx hs hf (by assumption) (by assumption)).sound
   ·cases hk
  ·cases hk
 ·rename_i ty x i ho
  split at hk
  ·obtain ⟨s,hs,rfl⟩:=Aw hk
   exact (MG (cf:=cf) ho (by assumption) (by assumption) (by assumption) hs).sound
  ·obtain ⟨s,hs,rfl⟩:=Aw hk
   exact (My (cf:=cf) ho (by assumption) (by assumption) (by assumption) hs).sound
  ·cases hk
 ·rename_i ty x i ho
  split at hk
  ·cases hk; exact (LE (cf:=cf) ho (by assumption) (by assumption) (by assumption)).sound
  ·split at hk
   ·cases hk; exact (LO (cf:=cf) ho (by assumption) (by assumption) (by assumption) (by assumption) (by assumption)).sound
   ·cases hk
  ·cases hk
 ·rename_i ty m k' ok ho
  split at hk
  ·rename_i kt e m' k'' ht hm hk'
   split at hk
   ·rename_i pl z hp hz
    obtain ⟨zz,hzz,rfl⟩:=Aw hk
    exact (OH (cf:=cf) ho hm hk' ht hp hz hzz).sound
   ·cases hk
  ·cases hk
 ·rename_i ty m k' v ho
  split at hk
  ·rename_i kt e m' k'' v' ht hm hk' hv
   obtain ⟨pl,hp,rfl⟩:=Aw hk
   exact Od (cf:=cf) (.inl ho) hm hk' hv ht hp
  ·cases hk
 ·rename_i ty m k' v ho
  split at hk
  ·rename_i kt e m' k'' v' ht hm hk' hv
   obtain ⟨pl,hp,rfl⟩:=Aw hk
   exact Od (cf:=cf) (.inr ho) hm hk' hv ht hp
  ·cases hk
 ·rename_i x i ho
  obtain ⟨x',hx,rfl⟩:=Aw hk
  exact (Ma (cf:=cf) ho hx).sound
 ·rename_i c ho
  split at hk
  ·exact Lc ho (by assumption) (by assumption) hk
  ·cases hk; exact PI (cf:=cf) hcf ho (by assumption) (by assumption)
  ·obtain ⟨x',hx,rfl⟩:=Aw hk
   exact ND (cf:=cf) hcf ho (by assumption) hx (by assumption)
  ·cases hk
 ·cases hk
end
end Go.Ev

namespace Go.Ev
set_option linter.unusedVariables false
section
variable {P:Program} {ρ:Env} {B N:Nat} {cf:CF}
theorem TR.put {φ:B6} {t:Regs} {a:Act} (hT:TR ρ N φ t a) {d:Nat} {p:K2} (hd:d<N) (hp:K2.ofN d=some p) {v:V} {x:Value} (hr:AG ρ φ v x):TR ρ N φ (DH p t v) (a.put (some d) x) where
 size:=by show (a.tmps.setIfInBounds d x).size=N; simp [hT.size]
 defers:=hT.defers
 at_:=fun s q hs hq=>by
  show AG ρ φ (Bi q (DH p t v)) ((a.tmps.setIfInBounds d x).getD s undef)
  by_cases e:d=s
  ·subst e
   rw [hp] at hq; cases hq
   rw [Be]
   have:(a.tmps.setIfInBounds d x).getD d undef=x:=by
    rw [Array.getD_eq_getD_getElem?,Array.getElem?_setIfInBounds]; simp [hT.size,hd]
   rw [this]; exact hr
  ·have hne:p≠q:=fun h=>e (K2.ofN_inj hp (h ▸ hq))
   rw [Bv _ _ hne]
   have:(a.tmps.setIfInBounds d x).getD s undef=a.tmps.getD s undef:=by
    rw [Array.getD_eq_getD_getElem?,Array.getElem?_setIfInBounds,if_neg e,←Array.getD_eq_getD_getElem?]
   rw [this]; exact hT.at_ s q hs hq
theorem DN {φ:B6}:AG ρ φ Cf undef:=by simp only [Cf,AG,undef]; exact ⟨#[],rfl,by simp only [Bu]⟩
def QB (N:Nat) (dst:Option Nat) (d:Option K2):Prop:=match dst,d with
 | none,none=>True
 | some s,some p=>s<N∧K2.ofN s=some p
 | _,_=>False
def Dd (d:Option K2) (t:Regs) (v:V):Regs:=match d with | none=>t | some p=>DH p t v
theorem TR.puts {φ:B6} {t:Regs} {a:Act} (hT:TR ρ N φ t a) {dst:Option Nat} {d:Option K2} (hd:QB N dst d) {v:V} {x:Value} (hr:AG ρ φ v x):TR ρ N φ (Dd d t v) (a.put dst x):=by
 cases dst with
 | none=>cases d with
  | none=>exact hT
  | some p=>exact hd.elim
 | some s=>cases d with
  | none=>exact hd.elim
  | some p=>exact hT.put hd.1 hd.2 hr
theorem Dk {s:Nat} {p:K2} (h:G6 N s=some p):s<N∧K2.ofN s=some p:=by
 unfold G6 at h
 split at h
 ·exact ⟨‹_›,h⟩
 ·cases h
def PG:Value->Option Bool
 | .bool b=>some b
 | _=>none
theorem OT {x:Value} (h:∀ b,x ≠ .bool b):PG x=none:=by
 cases x <;> first | rfl | exact absurd rfl (h _)
theorem Gu {g:Option (K2×Bool)} {t:Regs} {yes no:R} (hg:(CK g t yes no).good) {ops:Array Oper} {o:Oper}
  (hc:(match o.guard with | none=>some none | some (j,w)=>((ops[j]?).bind (·.dst)).bind fun d=>(G6 N d).map fun s=>some (s,w):Option (Option (K2×Bool)))=some g) :
  (CK g t yes no=yes ∧ ∀ φ a,TR ρ N φ t a->Region.wanted o (yielded ops a.tmps)=true)∨(CK g t yes no=no ∧ ∀ φ a,TR ρ N φ t a->Region.wanted o (yielded ops a.tmps)=false):=by
 cases hgd:o.guard with
 | none =>
  rw [hgd] at hc
  simp only [Option.some.injEq] at hc; subst hc
  exact .inl ⟨rfl,fun φ a _=>by simp [Region.wanted,hgd]⟩
 | some jw =>
  obtain ⟨j,want⟩:=jw
  rw [hgd] at hc
  obtain ⟨d,hd,hc⟩:=BM hc
  obtain ⟨p,hp,rfl⟩:=Aw hc
  obtain ⟨hdN,hpN⟩:=Dk hp
  have e1:CK (some (p,want)) t yes no=@V.rec (fun _=>R) (fun _=>Unit) (fun _ _=>no) (fun b=>br (Bool.rec (Bool.rec true false b) b want) yes no) (fun _ _=>no) (fun _ _ _ _ _ _=>no) (fun _ _=>no) (fun _ _=>no) (fun _=>no) (fun _=>no) (fun _ _ _=>no) (fun _ _=>no) (fun o=>.fail "") () (fun _ _ _ _=>()) (Bi p t):=CA p t _
  have told:∀ φ a,TR ρ N φ t a->yielded ops a.tmps j=PG (a.tmps.getD d undef):=fun φ a hT=>by
   have hlt:d<a.tmps.size:=by rw [hT.size]; exact hdN
   have h1:a.tmps.getD d undef=a.tmps[d]:=by rw [Array.getD_eq_getD_getElem?,Array.getElem?_eq_getElem hlt]; rfl
   rw [h1]
   unfold yielded
   rw [hd]
   simp only [Option.bind_some,Array.getElem?_eq_getElem hlt]
   cases a.tmps[d] <;> rfl
  have nope:∀ {v:V},Bi p t=v->(∀ φ x,AG ρ φ v x->∀ b,x ≠ .bool b)->∀ φ a,TR ρ N φ t a->Region.wanted o (yielded ops a.tmps)=false:=fun {v} hv hx φ a hT=>by
   have:=hT.at_ d p hdN hpN
   rw [hv] at this
   have hne:=hx φ _ this
   simp only [Region.wanted,hgd,told φ a hT,OT hne]
   rfl
  rw [e1] at hg ⊢
  cases hv:Bi p t with
  | bool b =>
   rw [hv] at hg
   have rd:∀ φ a,TR ρ N φ t a->Region.wanted o (yielded ops a.tmps)=(some b == some want):=fun φ a hT=>by
    have:=hT.at_ d p hdN hpN
    rw [hv] at this
    have hb:=Du this
    simp only [Region.wanted,hgd,told φ a hT,hb,PG]
   cases b <;> cases want
   ·exact .inl ⟨rfl,fun φ a hT=>by rw [rd φ a hT]; rfl⟩
   ·exact .inr ⟨rfl,fun φ a hT=>by rw [rd φ a hT]; rfl⟩
   ·exact .inr ⟨rfl,fun φ a hT=>by rw [rd φ a hT]; rfl⟩
   ·exact .inl ⟨rfl,fun φ a hT=>by rw [rd φ a hT]; rfl⟩
  | oth _=>rw [hv] at hg; exact hg.elim
  | int k r=>exact .inr ⟨rfl,nope hv fun φ x hr b e=>by subst e; simp only [AG] at hr; obtain ⟨_,h⟩:=hr; cases h⟩
  | ptr q off=>exact .inr ⟨rfl,nope hv fun φ x hr b e=>by subst e; obtain ⟨_,_,_,_,h⟩:=CQ hr; cases h⟩
  | sl q off len cap ex esz=>exact .inr ⟨rfl,nope hv fun φ x hr b e=>by subst e; obtain ⟨_,_,_,_,_,_,h,_⟩:=CJ hr; cases h⟩
  | str m c=>exact .inr ⟨rfl,nope hv fun φ x hr b e=>by subst e; obtain ⟨_,h,_⟩:=Cg hr; cases h⟩
  | agg l=>exact .inr ⟨rfl,nope hv fun φ x hr b e=>by subst e; obtain ⟨_,h,_⟩:=E3 hr; cases h⟩
  | nil u=>exact .inr ⟨rfl,nope hv fun φ x hr b e=>by subst e; have h:=BW hr; cases u <;> cases h⟩
  | map q=>exact .inr ⟨rfl,nope hv fun φ x hr b e=>by subst e; obtain ⟨_,_,_,_,h⟩:=F9 hr; cases h⟩
  | fn f l=>exact .inr ⟨rfl,nope hv fun φ x hr b e=>by subst e; obtain ⟨_,h,_⟩:=IA hr; cases h⟩
  | tup l=>exact .inr ⟨rfl,nope hv fun φ x hr b e=>by subst e; obtain ⟨_,h,_⟩:=Qx hr; cases h⟩
def C4 (P:Program) (ops:Array Oper) (o:Oper) (a:Act) (w:World) (K:Act->World->Prop) (Q:Exit->Act->World->Prop):Prop :=
 if Region.wanted o (yielded ops a.tmps)=true then o.wp P a w K Q else K (a.put o.dst undef) w
theorem BG {ops:Array Oper} {o:Oper} {ao:AOp} (h:Jc P N ops o=some ao):QB N o.dst ao.dst ∧
  (match o.guard with | none=>some none | some (j,w)=>((ops[j]?).bind (·.dst)).bind fun d=>(G6 N d).map fun s=>some (s,w):Option (Option (K2×Bool)))=some ao.g ∧
  (Fa P N o=some ao.k ∨ ∃ why,ao.k = .bad why):=by
 unfold Jc at h
 split at h
 ·rename_i d g hd hg
  cases h
  refine ⟨?_,hg,?_⟩
  ·cases hdst:o.dst with
   | none=>rw [hdst] at hd; simp only [Option.some.injEq] at hd; subst hd; trivial
   | some s =>
    rw [hdst] at hd
    obtain ⟨p,hp,rfl⟩:=Aw hd
    exact Dk hp
  ·cases hk:Fa P N o with
   | none=>exact .inr ⟨_,rfl⟩
   | some k=>exact .inl rfl
 ·cases h
end
end Go.Ev

namespace Go.Ev
set_option linter.unusedVariables false
section
variable {P:Program} {ρ:Env} {B:Nat}
def IE:Ex->Exit
 | .nrm=>.normal
 | .exit id=>.exit id
 | .ret=>.ret
def Hr (P:Program) (ρ:Env) (B:Nat) (f:FuncId) (p:Im):Prop :=
 ∀ args h n v h1 n1,p args h n = .rv v h1 n1->∀ φ w (xs:Array Value),Gam ρ B h n φ w->Bu ρ φ args xs.toList →
  HV P f xs w fun x w'=>∃ φ',Fr h h1 φ φ' n n1 w w'∧Gam ρ B h1 n1 φ' w'∧AG ρ φ' v x
def RZ (ts:Array Value):ResultVar->Sem Value
 | .tmp t=>pure (ts.getD t undef)
 | .cell a t=>do loadVar t (←asAddr (ts.getD a undef))
theorem PD (fn:Func) (ts:Array Value):results fn ts=(do
  let vs ←fn.results.mapM (RZ ts)
  pure (if h:vs.size=1 then vs[0] else .tuple vs)):=rfl
theorem RV {N:Nat} {r:ResultVar} {rs:List ResultVar} {x:ARes} {xs:List ARes} {t:Regs} {h:Heap} {κ:V->R} (hc:Ci P N (r::rs)=some (x::xs)) (hg:(Kf x t h κ).good) :
  Ci P N rs=some xs ∧ ∃ v,Kf x t h κ=κ v ∧ ∀ φ a w n,TR ρ N φ t a->Gam ρ B h n φ w →
   ∃ X,(RZ a.tmps r).run P w = .ok X w∧AG ρ φ v X:=by
 cases r with
 | tmp s =>
  simp only [Ci] at hc
  split at hc
  ·rename_i p rs' hp hrs
   cases hc
   obtain ⟨hs,hp⟩:=Dk hp
   refine ⟨hrs,Bi p t,CA p t κ,fun φ a w n hT g=>⟨a.tmps.getD s undef,rfl,hT.at_ s p hs hp⟩⟩
  ·cases hc
 | cell c ty =>
  simp only [Ci] at hc
  split at hc
  ·rename_i p ag m rs' hp hag hm hrs
   cases hc
   obtain ⟨hs,hp⟩:=Dk hp
   have e1:Kf (.cel p (if ag then some m else none)) t h κ=IR (Bi p t) fun q off=>IJ q h fun cs _ _ =>
     @Option.rec Nat (fun _=>R) (FY cs off κ) (fun m=>BY cs off m fun y=>Eg y fun l=>κ (.agg l)) (if ag then some m else none):=CA p t _
   rw [e1] at hg
   obtain ⟨q,off,hv,e2⟩:=CW hg
   rw [e2] at hg
   obtain ⟨cs,sup,prev,hq,e3⟩:=CS hg
   rw [e3] at hg
   have at1:∀ φ a w n,TR ρ N φ t a->Gam ρ B h n φ w->∃ b s tot c' e fr,φ q=some (b,s,tot)∧(asAddr (a.tmps.getD c undef)).run P w = .ok ⟨b,s+off,none⟩ w∧w.heap[b]? = some (.cells c' e fr)∧Ek ρ φ cs (fun i=>c'[s+i]?):=fun φ a w n hT g=>by
    have:=hT.at_ c p hs hp
    rw [hv] at this
    obtain ⟨b,s,tot,hφ,gx⟩:=CQ this
    obtain ⟨c',e,fr,k1,k2,k3,k4,k5⟩:=g.obj q _ b s tot hq hφ
    exact ⟨b,s,tot,c',e,fr,hφ,by rw [gx]; simp [asAddr],k1,k5⟩
   cases ag with
   | false =>
    obtain ⟨v,hv',e4⟩:=GU (show R.good (FY cs off κ) from hg)
    refine ⟨hrs,v,e1.trans (e2.trans (e3.trans e4)),fun φ a w n hT g=>?_⟩
    obtain ⟨b,s,tot,c',e,fr,hφ,had,k1,k5⟩:=at1 φ a w n hT g
    obtain ⟨X,hX,hr,_⟩:=k5 off v hv'
    exact ⟨X,by simp only [RZ,Sem.run_bind,had,Result.andThen_ok]; simp [loadVar,CE hag,GY k1 hX],hr⟩
   | true =>
    obtain ⟨hle,y,hyl,hya,e4⟩:=Cr (show R.good (BY cs off m fun y=>Eg y fun l=>κ (.agg l)) from hg)
    obtain ⟨l,e5,hll,hla⟩:=Fn y fun l=>κ (.agg l)
    refine ⟨hrs,.agg l,e1.trans (e2.trans (e3.trans (Eq.trans e4 e5))),fun φ a w n hT g=>?_⟩
    obtain ⟨b,s,tot,c',e,fr,hφ,had,k1,k5⟩:=at1 φ a w n hT g
    obtain ⟨vs,q1,q2,q3,q4⟩:=Iq (Gy k5 hyl hya)
    have hrun:=Fy (P:=P) (w:=w) (off:=s+off) vs k1 (fun j v hj=>by have:=q2 j v hj; rwa [←Nat.add_assoc] at this)
    rw [q1,hyl] at hrun
    refine ⟨.agg vs.toArray,by simp only [RZ,Sem.run_bind,had,Result.andThen_ok]; simp [loadVar,CE hag,Bh hm,hrun],?_⟩
    simp only [AG]
    exact ⟨_,rfl,q4 l (by rw [hll]) hla,q3⟩
  ·cases hc
theorem Ln {N:Nat}:∀ {rs:List ResultVar} {xs:List ARes} {t:Regs} {h:Heap} {κ:List V->R},Ci P N rs=some xs->(Ju xs t h κ).good →
  ∃ vs,Ju xs t h κ=κ vs ∧ ∀ φ a w n,TR ρ N φ t a->Gam ρ B h n φ w →
   ∃ Xs,(rs.mapM (RZ a.tmps)).run P w = .ok Xs w∧Bu ρ φ vs Xs
 | [],xs,t,h,κ,hc,hg=>by
  simp only [Ci,Option.some.injEq] at hc; subst hc
  exact ⟨[],rfl,fun φ a w n _ _=>⟨[],by simp,AR.2 rfl⟩⟩
 | r::rs,xs,t,h,κ,hc,hg=>by
  cases xs with
  | nil =>
   cases r with
   | tmp s=>simp only [Ci] at hc; split at hc <;> cases hc
   | cell c ty=>simp only [Ci] at hc; split at hc <;> cases hc
  | cons x xs =>
   have hg:R.good (Kf x t h fun v=>Ju xs t h fun vs=>κ (v::vs)):=hg
   obtain ⟨hc',v,e1,H1⟩:=RV (ρ:=ρ) (B:=B) hc hg
   rw [e1] at hg
   obtain ⟨vs,e2,H2⟩:=Ln hc' hg
   refine ⟨v::vs,Eq.trans e1 e2,fun φ a w n hT g=>?_⟩
   obtain ⟨X,r1,r2⟩:=H1 φ a w n hT g
   obtain ⟨Xs,q1,q2⟩:=H2 φ a w n hT g
   exact ⟨X::Xs,by simp only [List.mapM_cons,Sem.run_bind,r1,q1,Result.andThen_ok,Sem.run_pure],AE.2 ⟨X,Xs,rfl,r2,q2⟩⟩
theorem Mz {fn:Func} {xs:List ARes} {t:Regs} {h:Heap} {n:K4} {v:V} {h1:Heap} {n1:K4} (hc:Ci P fn.ntmps fn.results.toList=some xs) (hr:Pb xs t h n = .rv v h1 n1) :
  h1=h∧n1=n ∧ ∀ φ a w,TR ρ fn.ntmps φ t a->Gam ρ B h n φ w->∃ X,(results fn a.tmps).run P w = .ok X w∧AG ρ φ v X:=by
 have hg:R.good (Pb xs t h n):=by rw [hr]; trivial
 obtain ⟨vs,e1,H⟩:=Ln (ρ:=ρ) (B:=B) hc (show R.good (Ju xs t h _) from hg)
 have e1:Pb xs t h n=_:=e1
 rw [hr] at e1
 have run:∀ (a:Act) (w:World) (Xs:List Value),(fn.results.toList.mapM (RZ a.tmps)).run P w = .ok Xs w →
   (results fn a.tmps).run P w = .ok (if h:Xs.toArray.size=1 then Xs.toArray[0] else .tuple Xs.toArray) w:=fun a w Xs h=>by
  rw [PD]
  simp only [Array.mapM_eq_mapM_toList,Sem.run_bind,Sem.run_map,h,Result.andThen_ok,Sem.run_pure]
 match vs,e1,H with
 | [],e1,H =>
  cases e1
  refine ⟨rfl,rfl,fun φ a w hT g=>?_⟩
  obtain ⟨Xs,q1,q2⟩:=H φ a w n hT g
  have:=AR.1 q2
  subst this
  exact ⟨_,run a w _ q1,by simp only [AG]; exact ⟨#[],by simp,AR.2 rfl⟩⟩
 | [u],e1,H =>
  cases e1
  refine ⟨rfl,rfl,fun φ a w hT g=>?_⟩
  obtain ⟨Xs,q1,q2⟩:=H φ a w n hT g
  obtain ⟨X,Ys,rfl,r1,r2⟩:=AE.1 q2
  have:=AR.1 r2
  subst this
  exact ⟨_,run a w _ q1,by simpa using r1⟩
 | u::u'::us,e1,H =>
  cases e1
  refine ⟨rfl,rfl,fun φ a w hT g=>?_⟩
  obtain ⟨Xs,q1,q2⟩:=H φ a w n hT g
  have hl:=Bf q2
  refine ⟨_,run a w _ q1,?_⟩
  rw [dif_neg (by simp [hl])]
  simp only [AG]
  exact ⟨_,rfl,q2⟩
theorem Iz {N:Nat}:∀ {args:List V} {k:Nat} {l:List Nat} {ps:List K2} {t:Regs} {κ:Regs->R},(∀ i s,l[i]? = some s->s=k+i)->Fc N l=some ps->(Rr args ps t κ).good →
  args.length=l.length ∧ ∃ t1,Rr args ps t κ=κ t1 ∧ ∀ s p,K2.ofN s=some p->Bi p t1=if k≤s then (args[s - k]?).getD (Bi p t) else Bi p t
 | [],k,l,ps,t,κ,hl,hc,hg=>by
  cases l with
  | nil =>
   simp only [Fc,Option.some.injEq] at hc; subst hc
   exact ⟨rfl,t,rfl,fun s p hp=>by simp⟩
  | cons s l =>
   simp only [Fc] at hc
   split at hc
   ·cases hc; exact hg.elim
   ·cases hc
 | v::args,k,l,ps,t,κ,hl,hc,hg=>by
  cases l with
  | nil =>
   simp only [Fc,Option.some.injEq] at hc; subst hc
   exact hg.elim
  | cons s0 l =>
   simp only [Fc] at hc
   split at hc
   ·rename_i p ps' hp hps
    cases hc
    obtain ⟨_,hp⟩:=Dk hp
    have hs0:s0=k:=by have:=hl 0 s0 rfl; omega
    subst hs0
    have e1:Rr (v::args) (p::ps') t κ=Rr args ps' (DH p t v) κ:=No p t v _
    rw [e1] at hg ⊢
    obtain ⟨h1,t1,e2,H⟩:=Iz (k:=s0+1) (fun i s hi=>by have:=hl (i+1) s (by simpa using hi); omega) hps hg
    refine ⟨by simp [h1],t1,e2,fun s q hq=>?_⟩
    rw [H s q hq]
    by_cases hs:s0+1≤s
    ·have hne:p≠q:=fun e=>by subst e; have:=K2.ofN_inj hp hq; omega
     rw [if_pos hs,if_pos (by omega),Bv _ _ hne]
     have:s - s0=(s - (s0+1))+1:=by omega
     rw [this,List.getElem?_cons_succ]
    ·rw [if_neg hs]
     by_cases hs':s0≤s
     ·have:s=s0:=by omega
      subst this
      rw [if_pos (Nat.le_refl _)]
      rw [hp] at hq; cases hq
      simp [Be]
     ·have hne:p≠q:=fun e=>by subst e; have:=K2.ofN_inj hp hq; omega
      rw [if_neg hs',Bv _ _ hne]
   ·cases hc
theorem IG {N:Nat}:∀ {l:List Nat} {ps:List K2},Fc N l=some ps->∀ s∈l,s<N
 | [],_,_,s,hs=>by simp at hs
 | s0::l,ps,hc,s,hs=>by
  simp only [Fc] at hc
  split at hc
  ·rename_i p ps' hp hps
   rcases List.mem_cons.1 hs with e | hs
   ·subst e; exact (Dk hp).1
   ·exact IG hps s hs
  ·cases hc
theorem Kl {f:FuncId} {a:AFn} (h:G2 P f=some a):∃ fn c ps rs,P.funcs[f]? = some fn∧fn.body=some c∧Fc fn.ntmps (List.range (fn.params.size+fn.nfree))=some ps∧Ci P fn.ntmps fn.results.toList=some rs ∧
  (fn.name == "runtime.NumGoroutine")=false∧a=⟨ps,AM P fn.ntmps c,rs⟩:=by
 unfold G2 at h
 split at h
 ·rename_i fn hf
  split at h
  ·rename_i c ps rs hb hps hrs
   split at h
   ·cases h
   ·rename_i hn
    cases h
    exact ⟨fn,c,ps,rs,hf,hb,hps,hrs,by simpa using hn,rfl⟩
  ·cases h
 ·cases h
end
end Go.Ev

namespace Go.Ev
set_option linter.unusedVariables false
set_option linter.unusedSimpArgs false
section
variable {cf:CF} {t t':Regs} {h:Heap} {n:K4} {κ:KV}
def Oo (t t':Regs) (l:List Opd):Prop:=∀ x∈l,ev x t=ev x t'
theorem DL {o:Option Opd} {d:Nat} {κ:Nat->R} (hh:∀ x∈o.toList,ev x t=ev x t'):Cp o t d κ=Cp o t' d κ:=by
 cases o with
 | none=>rfl
 | some x =>
  have:=hh x (by simp)
  show CV x t _=CV x t' _
  rw [AS,AS,this]
theorem Hq {l:List Opd} {κ:List V->R} (hh:Oo t t' l):O9 l t κ=O9 l t' κ:=by
 rw [EZ,EZ]
 congr 1
 exact List.map_congr_left hh
theorem I7 {l:List Part}:∀ {z:List V} {κ:List V->R},(∀ p∈l,ev p.x t=ev p.x t')->D8 l t z κ=D8 l t' z κ:=by
 induction l with
 | nil=>intro z κ _; rfl
 | cons p l ih =>
  intro z κ hh
  obtain ⟨off,size,x⟩:=p
  have e1:∀ t,D8 (⟨off,size,x⟩::l) t z κ=DQ (ev x t) fun c=>GJ c fun m=>br (Nat.beq m size) (Lh z off c fun z=>D8 l t z κ) (.fail ""):=fun t=>AS x t _
  rw [e1,e1,hh ⟨off,size,x⟩ (by simp)]
  congr 1; funext c; congr 1; funext m; congr 1; congr 1; funext z
  exact ih fun p hp=>hh p (by simp [hp])
theorem Do {k:AK} (hh:Oo t t' k.opds):H6 k cf t h n κ=H6 k cf t' h n κ:=by
 cases k
 case build z ps=>exact I7 fun p hp=>hh p.x (List.mem_map.2 ⟨p,hp,rfl⟩)
 case bslice u8 len esz z ps=>exact I7 fun p hp=>hh p.x (List.mem_map.2 ⟨p,hp,rfl⟩)
 case mkfn f l=>exact Hq hh
 case call f l=>exact Hq hh
 case calld x l =>
  have h1:ev x t=ev x t':=hh x (by simp [AK.opds])
  have h2:Oo t t' l:=fun y hy=>hh y (by simp [AK.opds,hy])
  show El x l cf t h n κ=El x l cf t' h n κ
  simp only [El,AS,h1]
  congr 1; funext f caps
  exact Hq h2
 case slS x lo hi =>
  have h1:ev x t=ev x t':=hh x (by simp [AK.opds])
  have h2:∀ y∈lo.toList,ev y t=ev y t':=fun y hy=>hh y (by simp [AK.opds]; simp at hy; simp [hy])
  have h3:∀ y∈hi.toList,ev y t=ev y t':=fun y hy=>hh y (by simp [AK.opds]; simp at hy; simp [hy])
  show I2 x lo hi cf t h n κ=I2 x lo hi cf t' h n κ
  simp only [I2,AS,h1,DL h2,DL h3]
 case slL e x lo hi =>
  have h1:ev x t=ev x t':=hh x (by simp [AK.opds])
  have h2:∀ y∈lo.toList,ev y t=ev y t':=fun y hy=>hh y (by simp [AK.opds]; simp at hy; simp [hy])
  have h3:∀ y∈hi.toList,ev y t=ev y t':=fun y hy=>hh y (by simp [AK.opds]; simp at hy; simp [hy])
  show Ie e x lo hi cf t h n κ=Ie e x lo hi cf t' h n κ
  simp only [Ie,AS,h1,DL h2,DL h3]
 case slA m e x lo hi =>
  have h1:ev x t=ev x t':=hh x (by simp [AK.opds])
  have h2:∀ y∈lo.toList,ev y t=ev y t':=fun y hy=>hh y (by simp [AK.opds]; simp at hy; simp [hy])
  have h3:∀ y∈hi.toList,ev y t=ev y t':=fun y hy=>hh y (by simp [AK.opds]; simp at hy; simp [hy])
  show Io m e x lo hi cf t h n κ=Io m e x lo hi cf t' h n κ
  simp only [Io,AS,h1,DL h2,DL h3]
 all_goals
  simp only [AK.opds,Oo,List.mem_cons,List.not_mem_nil,or_false,forall_eq_or_imp,forall_eq] at hh
  simp only [H6,Uh,HD,OX,Iu,S2,Mu,Rq,DY,KN,Ri,MH,Mi,Mm,M7,J7,HQ,LN,MD,Ih,FR,LV,LL,M3,Lp,Ll,LH,S1,S3,MJ,Lk,LC,MK,Lm,ME,Mw,Lj,IP,Lw,IU,Mq,MM,R1,AS,hh]
end
end Go.Ev

namespace Go.Ev
set_option linter.unusedVariables false
section
variable {P:Program} {ρ:Env} {B N:Nat} {o:Oper} {cf:CF} {t:Regs} {h:Heap} {n:K4}
structure AllocOK (P:Program) (ρ:Env) (N:Nat) (o:Oper) (t:Regs) (r:K4) (v:V) (ob:Ob):Prop where
 prev:BP ob=none
 run:∀ φ a w,TR ρ N φ t a->φ r=none->∃ x O tot w0,(execOp a.eval o).run P w = .ok (.value x) (w0.alloc O)∧(w0=w∨w0=w.drew) ∧
  AG ρ (E5 φ r (w.heap.size,0,tot)) v x ∧ ∀ (φ':B6) (w':World),B6.le φ φ'->w'.heap[w.heap.size]? = some O->Fg ρ φ' w' ob w.heap.size 0 tot
def GD (P:Program) (ρ:Env) (N:Nat) (o:Oper) (f:KV->R) (t:Regs) (h:Heap) (n:K4):Prop :=
 ∀ κ:KV,(f κ).good->∃ v ob n1,f κ=κ v (B5 n h (some ob)) n1∧AllocOK P ρ N o t n v ob
theorem GG {φ:B6} {cs:Cs} {c:Array Value} {e:TypeId} {fr:Nat×Nat} {b:Nat} (hl:cs.len≤c.size) (hf:Vq fr c.size) (hc:Ek ρ φ cs fun i=>c[i]?) :
  ∀ (φ':B6) (w':World),B6.le φ φ'->w'.heap[b]? = some (.cells c e fr)->Fg ρ φ' w' (.c cs false none) b 0 c.size:=fun φ' w' hle hw' =>
 ⟨c,e,fr,hw',rfl,by omega,hf,Fi hle (fun i v hv=>by rw [Nat.zero_add]; exact hc i v hv)⟩
theorem Pa {e:TypeId} {z:List V} (ho:o.op = .alloc e) (hz:D9 P e=some z):GD P ρ N o (OX (.l z) cf t h n) t h n:=by
 intro κ hg
 obtain ⟨n',hn,e1⟩:=Bs (show R.good (D2 h n (.c (.l z) false none) fun h' n'=>κ (.ptr n 0) h' n') from hg)
 refine ⟨_,_,_,e1,⟨rfl,fun φ a w hT hr0=>?_⟩⟩
 unfold D9 at hz
 cases hi:(P.info? e).bind (·.zero) with
 | none=>rw [hi] at hz; cases hz
 | some zv =>
  rw [hi] at hz
  obtain ⟨hl,h1⟩:=Es (ρ:=ρ) (show Hd zv.cells.toList=some z from hz) φ
  have hc:=DJ hl h1
  have hob:=GG (b:=w.heap.size) (e:=e) (fr:=(0,0)) (c:=zv.cells) (by have:=Bf hl; simp only [Cs.len]; simp at this; omega) (Jv _) (cs:=.l z) (fun i v hv=>by simpa using hc i v hv)
  refine ⟨.pointer (some ⟨w.heap.size,0,none⟩),_,_,w,?_,.inl rfl,CU,hob⟩
  simp [execOp,ho,Instr.alloc,Da hi,newVar,EL]
theorem Q6 {e:TypeId} {x:Operand} {x':Opd} (hρ:Bq ρ) (ho:o.op = .box e x) (hx:AY N x=some x'):GD P ρ N o (Iu x' cf t h n) t h n:=by
 intro κ hg
 have e1:Iu x' cf t h n κ=DQ (ev x' t) fun l=>D2 h n (.c (.l l) false none) fun h' n'=>κ (.ptr n 0) h' n':=by simp only [Iu,AS]
 rw [e1] at hg
 obtain ⟨hc,e2⟩:=Fb hg
 rw [e2] at hg
 obtain ⟨n',hn,e3⟩:=Bs hg
 refine ⟨_,_,_,e1.trans (e2.trans e3),⟨rfl,fun φ a w hT hr0=>?_⟩⟩
 obtain ⟨hl,h1⟩:=GX hρ hc (Am hx hT)
 have hcs:=DJ hl h1
 have hob:=GG (b:=w.heap.size) (e:=e) (fr:=(0,0)) (c:=(a.eval x).cells) (by have:=Bf hl; simp only [Cs.len]; simp at this; omega) (Jv _) (cs:=.l (ev x' t).cl) (fun i v hv=>by simpa using hcs i v hv)
 refine ⟨.pointer (some ⟨w.heap.size,0,none⟩),_,_,w,?_,.inl rfl,CU,hob⟩
 simp [execOp,ho,Instr.box,newVar,EL]
theorem Ni {ty:TypeId} (ho:o.op = .makeMap ty none):GD P ρ N o (Ih cf t h n) t h n:=by
 intro κ hg
 obtain ⟨n',hn,e1⟩:=Bs (show R.good (D2 h n (.m [] [] 0) fun h' n'=>κ (.map n) h' n') from hg)
 refine ⟨_,_,_,e1,⟨rfl,fun φ a w hT hr0=>?_⟩⟩
 refine ⟨.map (some w.heap.size),.map #[] 0,0,w,by simp [execOp,ho,Instr.makeMap,run_newObj],.inl rfl,?_,fun φ' w' hle hw'=>⟨#[],hw',rfl,rfl⟩⟩
 ·simp only [AG]; exact ⟨w.heap.size,0,0,BR _ _ _,rfl⟩
theorem PX {src dst e:TypeId} {x:Operand} {x':Opd} (ho:o.op = .convert src dst x) (hx:AY N x=some x') (hs:P.underlying src=some .string) (hd:P.underlying dst=some (.slice e)) (he:P.underlying e=some (.int .u8)) :
  GD P ρ N o (HQ x' cf t h n) t h n:=by
 intro κ hg
 have e1:HQ x' cf t h n κ=Bl (ev x' t) fun m c=>D2 h n (.c (.b m c) false none) fun h' n'=>κ (.sl n 0 m m false 1) h' n':=by simp only [HQ,AS]
 rw [e1] at hg
 obtain ⟨m,c,hxv,e2⟩:=BX hg
 rw [e2] at hg
 obtain ⟨n',hn,e3⟩:=Bs hg
 refine ⟨_,_,_,e1.trans (e2.trans e3),⟨rfl,fun φ a w hT hr0=>?_⟩⟩
 have g1:=Am hx hT
 rw [hxv] at g1
 obtain ⟨s,gx,hsz,hc⟩:=Cg g1
 clear g1
 subst hsz hc
 -- the capacity is drawn
 obtain ⟨cap,w1,hcap,hrun,hw1⟩:∃ cap w1,s.size≤cap∧(choose (.appendCap s.size 0 e)).run P w = .ok cap w1∧w1=w.drew:=by
  refine ⟨_,_,?_,by rw [run_choose]; simp only [Question.forced,Bool.false_eq_true,if_false]; rfl,rfl⟩
  simp only [Question.cut]; omega
 subst hw1
 let cells:Array Value:=s.data.map (fun b=>Value.int .u8 b.toNat)++Array.replicate (cap - s.size) (.int .u8 0)
 have hsize:cells.size=cap:=by simp [cells]; omega
 have hcs:Ek ρ φ (.b s.size (B7 s.data.toList)) fun i=>cells[i]?:=fun i v hv=>by
  have hi:i<s.size:=Cs.lt_of_at hv
  rw [Cs.b_pos hi] at hv
  have hi':i<s.data.toList.length:=by rw [BI]; exact hi
  rw [I6 _ _ hi'] at hv
  cases hv
  have hlt:=s.data.toList[i].toNat_lt
  refine ⟨.int .u8 (s.data.toList[i].toNat:Nat),?_,?_,rfl⟩
  ·have hi2:i<s.data.size:=hi
   show (s.data.map (fun b=>Value.int .u8 b.toNat)++Array.replicate (cap - s.size) (.int .u8 0))[i]? = _
   rw [Array.getElem?_append_left (by simpa using hi2),Array.getElem?_map,Array.getElem?_eq_getElem hi2]
   simp
  ·simp only [AG]
   exact ⟨by simp [Mk]; exact hlt,by rw [AA (by simp [Hk]; exact hlt)]⟩
 have hob:=GG (b:=w.heap.size) (e:=e) (fr:=(cap,cap+1)) (c:=cells) (by simp only [Cs.len]; omega) (.inr (by rw [hsize]; exact Nat.le_refl _)) hcs
 refine ⟨.slice (some ⟨w.heap.size,0,none⟩) s.size cap,_,_,w.drew,?_,.inr rfl,?_,hob⟩
 ·simp only [execOp,ho,gx,convert,Sem.run_bind,run_underlying hs,run_underlying hd,run_underlying he,Result.andThen_ok,Conv.stringToBytes,hrun]
  have hrow:(newRow e (Array.map (fun b=>Value.int IntKind.u8 ↑b.toNat) s.data++Array.replicate (cap - s.size) (Value.int IntKind.u8 0))).run P w.drew = .ok ⟨w.heap.size,0,none⟩ (w.drew.alloc (.cells cells e)):=rfl
  simp only [hrow,Result.andThen_ok]
  have hsh:(w.drew.alloc (.cells cells e)).shape? w.heap.size=some (e,cap):=by
   have:(w.drew.alloc (.cells cells e)).heap[w.heap.size]? = some (.cells cells e):=by show (w.heap.push _)[w.heap.size]? = _; simp
   unfold World.shape?; rw [this]; simp [hsize]
  have hfz:(w.drew.alloc (.cells cells e)).freeze { block:=w.heap.size,off:=cap } 1=w.drew.alloc (.cells cells e (cap,cap+1)):=by
   exact (Gg (show (w.drew.alloc (.cells cells e)).heap[w.heap.size]? = some (.cells cells e (0,0)) from HS (w:=w.drew))).trans (JQ (w:=w.drew))
  simp only [markStringish,Sem.run_bind,run_shape,hsh,Result.andThen_ok,run_freeze,hfz,Sem.run_pure]
 ·simp only [AG]
  refine ⟨w.heap.size,0,cells.size,0,cap,BR _ _ _,rfl,Nat.le_refl _,hcap,(fun h=>by cases h),(fun _=>⟨rfl,by rw [hsize]; omega⟩)⟩
theorem L4 {ty e:TypeId} {len s:Nat} {parts:Array (Nat×Operand)} {z:List V} {ps:List Part} {u8:Bool} (hρ:Bq ρ) (ho:o.op = .buildSlice ty len parts) (hu:P.underlying ty=some (.slice e)) (hs:Bw P e=some s) (hz:D9 P e=some z)
  (hsz:s=z.length) (h0:0<s) (hbig:len*s≤2 ^ 24) (hps:Fd N (fun i=>some (i*s,s)) parts.toList=some ps):GD P ρ N o (GH u8 len s (DR z len) ps cf t h n) t h n:=by
 intro κ hg
 obtain ⟨l,hl,e1,H⟩:=F1 hρ hps (show R.good (D8 ps t (DR z len) _) from hg)
 have e1:GH u8 len s (DR z len) ps cf t h n κ=_:=e1
 rw [e1] at hg
 rw [CG] at hl
 obtain ⟨zv,it,hi,hzv,hr⟩:=CY (ρ:=ρ) hz
 have hits:it.size=s:=by unfold Bw at hs; rw [hi] at hs; simpa using hs
 -- the cells,whichever way they are kept
 have fin:∀ (cs:Cs) (n':K4),n'.toN=n.toN+1->cs.len=l.length->(∀ i,cs.at i=l[i]?)->AllocOK P ρ N o t n (.sl n 0 len len true s) (.c cs false none):=fun cs n' hn hcl hca=>⟨rfl,fun φ a w hT hr0=>by
  have hzl:=Bf (hr φ).1
  obtain ⟨cells,k1,k2,k3⟩:=H φ a ((Array.range (len*s)).map (zv.cells[· % zv.cells.size]!)) hT (Cc.2 ⟨by simp [CG,hsz],fun i v hv=>by
    have hlt:i<len*z.length:=by
     rcases Nat.lt_or_ge i (len*z.length) with h' | h'
     ·exact h'
     ·rw [List.getElem?_eq_none (by rw [CG]; exact h')] at hv; cases hv
    rw [LI hlt] at hv
    obtain ⟨x,hx,hrx,_⟩:=Dv (hr φ).1 (hr φ).2 (k:=len*s) (by rw [hsz]; exact hlt) hv
    exact ⟨x,by rw [Array.getElem?_toList]; exact hx,hrx⟩⟩) (fun y hy=>by
    obtain ⟨i,hi',rfl⟩:=List.getElem_of_mem hy
    have hlt:i<len*z.length:=by simpa [hsz] using hi'
    have hzp:i % z.length<z.length:=Nat.mod_lt _ (by omega)
    obtain ⟨x,hx,_,hox⟩:=Dv (hr φ).1 (hr φ).2 (k:=len*s) (i:=i) (by rw [hsz]; exact hlt) (List.getElem?_eq_getElem hzp)
    have hx':=hx
    rw [←Array.getElem?_toList,List.getElem?_eq_getElem hi'] at hx'
    cases hx'; exact hox)
  have hcl2:=Bf k2
  have hc:=DJ k2 k3
  have hob:=GG (b:=w.heap.size) (e:=e) (fr:=(0,0)) (c:=cells) (cs:=cs) (by rw [hcl]; simp at hcl2; omega) (Jv _) (fun i v hv=>by rw [hca i] at hv; simpa using hc i v hv)
  refine ⟨.slice (some ⟨w.heap.size,0,none⟩) len len,_,_,w,?_,.inl rfl,FS (Nat.le_refl _) (by simp at hcl2; rw [hcl2,hl,hsz]; exact Nat.le_refl _),hob⟩
  have hfill:Instr.fill (fun i=>some (i*it.size,it.size)) ((Array.range (len*it.size)).map (zv.cells[· % zv.cells.size]!)) (parts.map fun (i,x)=>(i,a.eval x)).toList=some cells:=by
   rw [hits,Array.toList_map]; exact k1
  have hrun:(Instr.buildSlice ty len (parts.map fun (i,x)=>(i,a.eval x))).run P w = .ok (.slice (some ⟨w.heap.size,0,none⟩) len len) (w.alloc (.cells cells e)):=by
   by_cases h00:len*it.size=0
   ·have hfill':Instr.fill (fun i=>some (i*it.size,it.size)) #[] (parts.map fun (i,x)=>(i,a.eval x)).toList=some cells:=by
     have:(Array.range (len*it.size)).map (zv.cells[· % zv.cells.size]!) = #[]:=Array.eq_empty_of_size_eq_zero (by simp [h00])
     rw [this] at hfill; exact hfill
    simp only [Instr.buildSlice,Sem.run_bind,run_underlying hu,Result.andThen_ok,Bh hs]
    rw [←hits]
    simp only [h00]
    have hr0:∀ q:Array Value,(Array.range 0).map (fun x=>q[x % q.size]!) = #[]:=fun q=>Array.eq_empty_of_size_eq_zero (by simp)
    simp [hr0]
    rw [Array.toList_map] at hfill'
    rw [show (List.map (fun x:Nat×Operand=>(x.fst,a.eval x.snd)) parts.toList)=List.map (fun x=>match x with | (i,x)=>(i,a.eval x)) parts.toList from rfl,hfill']
    rfl
   ·exact run_buildSlice w ty e len _ cells it zv hu hi hzv (by rw [hits]; omega) h00 hfill
  simp only [execOp,ho,Sem.run_bind,hrun,Result.andThen_ok,Sem.run_pure]⟩
 cases u8 with
 | true =>
  have hg':R.good (CM l (fun m c=>D2 h n (.c (.b m c) false none) fun h' n'=>κ (.sl n 0 len len true s) h' n') (.fail "")):=hg
  obtain ⟨m,c,e2,hml,hma,_⟩:=HJ hg'
  rw [e2] at hg'
  obtain ⟨n',hn,e3⟩:=Bs hg'
  exact ⟨_,_,_,e1.trans (Eq.trans e2 e3),fin (.b m c) n' hn hml hma⟩
 | false =>
  obtain ⟨n',hn,e3⟩:=Bs (show R.good (D2 h n (.c (.l l) false none) fun h' n'=>κ (.sl n 0 len len true s) h' n') from hg)
  exact ⟨_,_,_,e1.trans e3,fin (.l l) n' hn rfl fun _=>rfl⟩
theorem OF {ty e:TypeId} {l c:Operand} {l' c':Opd} {s eb:Nat} {z:List V} (ho:o.op = .makeSlice ty l c) (hl:AY N l=some l') (hc:AY N c=some c') (hu:P.underlying ty=some (.slice e)) (hs:Bw P e=some s) (hb:EI P e=some eb) (hz:D9 P e=some z)
  (hsz:s=z.length) (h0:0<s) (hb0:0<eb):GD P ρ N o (FR eb (L9 z) z l' c' cf t h n) t h n:=by
 intro κ hg
 have e1:FR eb (L9 z) z l' c' cf t h n κ=Iw (ev l' t) fun a=>Iw (ev c' t) fun b=>br (Nat.ble a b) (br (Nat.ble (Nat.mul eb b) 281474976710656) (EH (L9 z) z b fun y=>D2 h n (.c y false none) fun h' n'=>κ (.sl n 0 a b true z.length) h' n') (.fail "")) (.fail ""):=by
  simp only [FR,AS,Dj]
 rw [e1] at hg
 obtain ⟨k1,a,hlv,ha,e2⟩:=De hg
 rw [e2] at hg
 obtain ⟨k2,b,hcv,hbv,e3⟩:=De hg
 rw [e3] at hg
 obtain ⟨h4,e4⟩:=Ao hg
 rw [e4] at hg
 obtain ⟨h5,e5⟩:=Ao hg
 rw [e5] at hg
 have h4:=Ap.1 h4
 have h5:eb*b≤281474976710656:=Ap.1 h5
 obtain ⟨y,e6,hyl,hya⟩:=GN (L9 z) z b (fun y=>D2 h n (.c y false none) fun h' n'=>κ (.sl n 0 a b true z.length) h' n') MS
 rw [e6] at hg
 obtain ⟨n',hn,e7⟩:=Bs hg
 refine ⟨_,_,_,e1.trans (e2.trans (e3.trans (e4.trans (e5.trans (e6.trans e7))))),⟨rfl,fun φ ac w hT hr0=>?_⟩⟩
 have g1:=Am hl hT
 rw [hlv] at g1
 have gl:=EP ha g1
 have g2:=Am hc hT
 rw [hcv] at g2
 have gc:=EP hbv g2
 obtain ⟨zv,it,hi,hzv,hr⟩:=CY (ρ:=ρ) hz
 have hits:it.size=s:=by unfold Bw at hs; rw [hi] at hs; simpa using hs
 have hitb:it.bytes=eb:=by unfold EI at hb; rw [hi] at hb; simpa using hb
 have hb63:b≤281474976710656:=Nat.le_trans (Nat.le_mul_of_pos_left b hb0) h5
 have hrun:=run_make (P:=P) w ty e it zv hu hi hzv k1 k2 (a:Int) (b:Int) (by omega) (by omega) (by rw [hitb,←Int.natCast_mul]; exact Int.ofNat_le.2 h5) (by omega)
 have hob:=GG (b:=w.heap.size) (e:=e) (fr:=(0,0)) (c:=madeCells zv.cells (b*it.size)) (cs:=y) (by rw [size_madeCells,hyl,hits,hsz]; exact Nat.le_refl _) (Jv _) (fun i v hv=>by
  have hlt:=Cs.lt_of_at hv
  rw [hyl] at hlt
  rw [hya i hlt] at hv
  exact Dv (hr φ).1 (hr φ).2 (k:=b*it.size) (by rw [hits,hsz]; exact hlt) hv)
 refine ⟨.slice (some ⟨w.heap.size,0,none⟩) a b,_,_,w,?_,.inl rfl,FS h4 (by rw [size_madeCells,hits,hsz]; exact Nat.le_refl _),hob⟩
 simp only [execOp,ho,gl,gc,Sem.run_bind,hrun,Result.andThen_ok,Sem.run_pure,Int.toNat_natCast]
end
end Go.Ev
