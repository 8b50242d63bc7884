/- AN EVALUATOR OF THE MODEL OF Go, PROVED SOUND, PART 4: what it says of a call holds in every world, on every tape. Conditions: none of its own; each theorem bears its premises. -/
import Derived.Test.YtnelgnghdioapaaGreatDoorCEv3
import Derived.Shelf.Strconv.Itoa1
import GoSem.ClaimGoes
noncomputable section
set_option linter.unusedSimpArgs false
set_option linter.unusedVariables false
namespace Go.Ev
set_option linter.unusedVariables false
abbrev I0:=Ren->S->Heap->K4->R
abbrev r0:I0:=fun _ t h n=>.ok .nrm t h n
def AC.ends (c:AC):Bool:=@AC.rec (fun _=>Bool) false (fun _ _ x y=>or x y) (fun _=>false) (fun _ _=>false) (fun _ _ _ x y=>and x y) (fun _ _ _=>false) (fun _ _=>true) (fun _=>true) true (fun _=>true) (fun _ _ _ _=>false) c
def At (r:R) (κ:S->Heap->K4->R):R :=
 @R.rec (fun _=>R) (fun e t h n=>@Ex.rec (fun _=>R) (κ t h n) (fun id=>.ok (.exit id) t h n) (.ok .ret t h n) e) (C2 "") (fun w=>.fail w) (fun _ _ a b=>.both a b) r
def Ac (id:Nat) (r:R) (κ:S->Heap->K4->R):R :=
 @R.rec (fun _=>R) (fun e t h n=>@Ex.rec (fun _=>R) (κ t h n) (fun j=>br (Nat.beq j id) (κ t h n) (.ok (.exit j) t h n)) (.ok .ret t h n) e) (C2 "") (fun w=>.fail w) (fun _ _ a b=>.both a b) r
def Aw (body:S->Heap->K4->R):S->Heap->K4->R:=Et body 1000000000
def BZ (n:K4) (κ:K4->K4->R):R:=n.nx16 fun b=>b.nx16 fun n=>κ b n
abbrev P9 (al:Bool) (n:K4) (κ:K4->K4->R):R:=Ul al (BZ n κ) (κ n n)
abbrev Ly (ea eb:Bool) (v:V) (a b:I0->I0) (rest:I0) (env:Ren) (t:S) (h:Heap) (n:K4):R :=
 Ul ea (Al v (a r0 env t h n) (b rest env t h n)) (Ul eb (Al v (a rest env t h n) (b r0 env t h n)) (At (Al v (a r0 env t h n) (b r0 env t h n)) fun t h n=>rest [] t h n))
abbrev Gk (sm:SM) (cf:FL) (c:AC):I0->I0 :=
 @AC.rec (fun _=>I0->I0) (fun rest=>rest) (fun _ _ a b rest=>a (b rest)) (fun l rest env t h n=>CM sm cf l env t h n rest)
  (fun al l rest env t h n=>P9 al n fun b n=>De sm cf b l env t h h n fun env t _ h n=>rest env t h n)
  (fun c x y a b rest env t h n=>Bk sm env t c fun v=>Ly x.ends y.ends v a b rest env t h n)
  (fun id _ b rest env t h n=>Ac id (b r0 env t h n) fun t h n=>rest [] t h n)
  (fun _ b _ _ t h n=>Aw (fun t h n=>b r0 [] t h n) t h n) (fun id _ _ t h n=>.ok (.exit id) t h n) (fun _ _ t h n=>.ok .ret t h n) (Dq "")
  (fun pre sp d post rest env t h n=>CM sm cf pre env t h n fun env t h n=>Uw cf sp (Bk sm env t) h n fun v h n=>CX sm d t v fun t=>CM sm cf post (BM d v env) t h n rest) c
def DN (sm:SM) (dom:List K2) (c:Opd):Bool:=@Opd.rec (fun _=>Bool) (fun p=>Jg sm dom p) (fun _=>true) c
def Qf (sm:SM) (dom:List K2) (sp:Sp):Bool:=@Sp.rec (fun _=>Bool) (fun x=>DN sm dom x) (fun x=>DN sm dom x) (fun x=>DN sm dom x) (fun _ l=>l.all (DN sm dom)) (fun x l=>DN sm dom x&&l.all (DN sm dom)) sp
def F1 (sm:SM) (c:AC):(List K2->Bool)->List K2->Bool :=
 @AC.rec (fun _=>(List K2->Bool)->List K2->Bool) (fun r=>r) (fun _ _ a b r=>a (b r)) (fun l r dom=>G0 sm l dom&&r (CE l dom))
  (fun al l r dom=>Io sm l dom&&r (Ig l dom))
  (fun c x y a b r dom=>DN sm dom c&&br x.ends (a (fun _=>true) dom&&b r dom) (br y.ends (a r dom&&b (fun _=>true) dom) (a (fun _=>true) dom&&(b (fun _=>true) dom&&r []))))
  (fun id _ b r dom=>b (fun _=>true) dom&&r []) (fun _ b _ _=>b (fun _=>true) []) (fun _ _ _=>true) (fun _ _=>true) (fun _ _ _=>true)
  (fun pre sp d post r dom=>G0 sm pre dom&&(Qf sm (CE pre dom) sp&&(G0 sm post (FX d (CE pre dom))&&r (CE post (FX d (CE pre dom)))))) c
section
variable {P:Program} {ρ:Env} {B N:Nat} {cf:CF} {cf2:FL} {sm:SM}
def Qp (κ:S->Heap->K4->R) (Φ:R->Prop):R->Prop
 | .ok .nrm t h n=>(κ t h n).sat Φ
 | .ok e t h n=>Φ (.ok e t h n)
 | _=>False
theorem DH {κ:S->Heap->K4->R} {Φ:R->Prop}:∀ {r:R},(At r κ).sat Φ->r.sat (Qp κ Φ)
 | .ok e t h n,hs=>by cases e <;> exact hs
 | .rv _ _ _,hs=>hs.elim
 | .fail _,hs=>hs.elim
 | .both a b,hs=>⟨DH (r:=a) hs.1,DH (r:=b) hs.2⟩
theorem Tn {body:S->Heap->K4->R} {k:Nat} {Φ:R->Prop} {t:S} {h:Heap} {n:K4} (hs:(Et body (k+1) t h n).sat Φ):(body t h n).sat (Qp (Et body k) Φ):=by
 have e:Et body (k+1) t h n=@R.rec (fun _=>R) (fun e t h n=>@Ex.rec (fun _=>R) (Et body k t h n) (fun id=>.ok (.exit id) t h n) (.ok .ret t h n) e) (C2 "") (fun w=>.fail w) (fun _ _ a b=>.both a b) (body t h n):=rfl
 rw [e] at hs
 generalize body t h n=r at hs
 clear e
 induction r with
 | ok e t h n=>cases e <;> exact hs
 | rv _ _ _=>exact hs.elim
 | fail _=>exact hs.elim
 | both a b iha ihb=>exact ⟨iha hs.1,ihb hs.2⟩
def We (id:Nat) (κ:S->Heap->K4->R) (Φ:R->Prop):R->Prop
 | .ok .nrm t h n=>(κ t h n).sat Φ
 | .ok (.exit j) t h n=>(j=id∧(κ t h n).sat Φ)∨(j≠id∧Φ (.ok (.exit j) t h n))
 | .ok .ret t h n=>Φ (.ok .ret t h n)
 | _=>False
theorem FI {id:Nat} {κ:S->Heap->K4->R} {Φ:R->Prop}:∀ {r:R},(Ac id r κ).sat Φ->r.sat (We id κ Φ)
 | .ok e t h n,hs=>by
  cases e with
  | nrm=>exact hs
  | ret=>exact hs
  | exit j =>
   have hs:(br (Nat.beq j id) (κ t h n) (R.ok (.exit j) t h n)).sat Φ:=hs
   cases hj:Nat.beq j id with
   | true=>rw [hj] at hs; exact .inl ⟨Nat.eq_of_beq_eq_true hj,hs⟩
   | false=>rw [hj] at hs; exact .inr ⟨fun e=>by subst e; simp at hj,hs⟩
 | .rv _ _ _,hs=>hs.elim
 | .fail _,hs=>hs.elim
 | .both a b,hs=>⟨FI (r:=a) hs.1,FI (r:=b) hs.2⟩
def Te (P:Program) (ρ:Env) (B N:Nat) (sm:SM) (C:Code) (t:Regs) (h:Heap) (n:K4) (Φ:R->Prop):Prop :=
 ∀ φ a w,TR ρ N φ t a->Gam ρ B h n φ w->∀ (Q:Exit->Act->World->Prop),
  (∀ e t1 h1 n1,Φ (.ok e t1 h1 n1)->∀ φ' a' w' tf,Fr h h1 φ φ' n n1 w w'->Gam ρ B h1 n1 φ' w'->TR ρ N φ' tf a'->(∀ p s,BI p sm=some s->S.get s t1=Bg p tf)->Q (IP e) a' w')->C.wp P Q a w
def Ss (P:Program) (ρ:Env) (B N:Nat) (sm:SM) (cf2:FL) (C:Code):Prop :=
 ∀ (rest:I0) (rOk:List K2->Bool) (dom:List K2) (env:Ren) (t:Regs) (t':S) (h:Heap) (n:K4) (Φ:R->Prop),
  F1 sm (AO P N C) rOk dom=true->RI sm dom env t t'->(Gk sm cf2 (AO P N C) rest env t' h n).sat Φ →
  ∀ φ a w,TR ρ N φ t a->Gam ρ B h n φ w->∀ (Q:Exit->Act->World->Prop),
   (∀ e t1 h1 n1,Φ (.ok e t1 h1 n1)->e ≠ .nrm->∀ φ' a' w' tf,Fr h h1 φ φ' n n1 w w'->Gam ρ B h1 n1 φ' w'->TR ρ N φ' tf a'->(∀ p s,BI p sm=some s->S.get s t1=Bg p tf)->Q (IP e) a' w') →
   ((AO P N C).ends=false->∀ dom2 env2 t2 t2' h2 n2,rOk dom2=true->RI sm dom2 env2 t2 t2'->(rest env2 t2' h2 n2).sat Φ->∀ φ2 a2 w2,Fr h h2 φ φ2 n n2 w w2->Gam ρ B h2 n2 φ2 w2->TR ρ N φ2 t2 a2->Q .normal a2 w2) →
   C.wp P Q a w
theorem Ss.join {C:Code} (H:Ss P ρ B N sm cf2 C) {dom:List K2} {env:Ren} {t:Regs} {t':S} {h:Heap} {n:K4} {Φ:R->Prop} (hok:F1 sm (AO P N C) (fun _=>true) dom=true) (ri:RI sm dom env t t')
  (hx:(Gk sm cf2 (AO P N C) r0 env t' h n).sat Φ):Te P ρ B N sm C t h n Φ:=by
 intro φ a w hT g Q hQ
 refine H r0 _ dom env t t' h n Φ hok ri hx φ a w hT g Q (fun e t1 h1 n1 hΦ _ φ' a' w' tf f1 g1 T1 hk=>hQ e t1 h1 n1 hΦ φ' a' w' tf f1 g1 T1 hk) fun _ dom2 env2 t2 t2' h2 n2 _ ri2 hr φ2 a2 w2 f2 g2 T2=>?_
 have hr:Φ (R.ok .nrm t2' h2 n2):=hr
 exact hQ _ _ _ _ hr φ2 a2 w2 t2 f2 g2 T2 ri2.keep
theorem TV {o:Oper} {d:Option K2} (h:UB N o=some d):Qv N o.dst d:=by
 unfold UB at h
 cases hd:o.dst with
 | none=>rw [hd] at h; cases h; trivial
 | some s =>
  rw [hd] at h
  obtain ⟨p,hp,rfl⟩:=AA h
  exact Dj hp
theorem Mc {ops:Array Oper}:∀ {l:List Oper} {pre:List AOp} {sp:Sp} {d:Option K2} {post:List AOp},KS P N ops l=some (pre,sp,d,post) →
  ∃ l1 o l2,l=l1++o::l2∧Ga P N ops l1=some pre∧Xv P N o=some sp∧o.guard=none∧Qv N o.dst d∧Ga P N ops l2=some post
 | [],pre,sp,d,post,h=>by cases h
 | o::l,pre,sp,d,post,h=>by
  unfold KS at h
  split at h
  ·rename_i sp' hsp
   split at h
   ·rename_i d' post' hg hd hp
    cases h
    exact ⟨[],o,l,rfl,rfl,hsp,hg,TV hd,hp⟩
   ·cases h
  ·split at h
   ·cases h
   ·rename_i r hr
    split at h
    ·rename_i x hx
     obtain ⟨pre',sp',d',post'⟩:=r
     cases h
     obtain ⟨l1,o',l2,rfl,h1,h2,h3,h4,h5⟩:=Mc hr
     refine ⟨o::l1,o',l2,rfl,?_,h2,h3,h4,h5⟩
     simp only [Ga,hx,h1]
    ·cases h
theorem VL {cf:CF} {cf2:FL} (hcf:Gp P ρ B cf) (hR:FP P ρ B cf) (h2:∀ f,cf2 (BA f)=cf f) {o:Oper} {sp:Sp} (hc:Xv P N o=some sp) {t:Regs} {h:Heap} {n:K4}:V0 P ρ B N o t h n (Uw cf2 sp (fun x κ=>κ (ev x t)) h n):=by
 have tl:∀ (l:List Opd) (κ:List V->R),Fm (fun x κ=>κ (ev x t)) l κ=κ (l.map (ev · t)):=fun l κ=>Fh (fun x _ κ=>rfl)
 unfold Xv at hc
 split at hc
 ·rename_i ty x ho
  split at hc
  ·rename_i kt e ht
   obtain ⟨x',hx,rfl⟩:=AA hc
   exact (Ry ho hx ht).sp.in_
  ·cases hc
 ·rename_i x s ho
  split at hc
  ·cases hc
  ·rename_i hs
   obtain ⟨x',hx,rfl⟩:=AA hc
   have:s=false:=by simpa using hs
   subst this
   exact (US ho hx).in_
 ·rename_i x ho
  obtain ⟨x',hx,rfl⟩:=AA hc
  exact (Rj ho hx).sp.in_
 ·rename_i ct ho
  split at hc
  ·rename_i f hcal
   split at hc
   ·obtain ⟨l,hl,rfl⟩:=AA hc
    have e:Uw cf2 (.tcl f l) (fun x κ=>κ (ev x t)) h n=fun κ=>Cw (cf2 (BA f) (l.map (ev · t)) h n) κ:=by
     funext κ
     exact tl l _
    rw [e]
    exact (Ve hcf h2 ho hcal hl).in_
   ·cases hc
  ·rename_i s hcal
   split at hc
   ·rename_i x l hx hl
    cases hc
    have e:Uw cf2 (.dcl x l) (fun x κ=>κ (ev x t)) h n=fun κ=>GD cf2 (ev x t) (l.map (ev · t)) h n κ:=by
     funext κ
     exact tl l _
    rw [e]
    exact UJ hcf hR h2 ho hcal hx hl
   ·cases hc
  ·cases hc
 ·cases hc
theorem S2 (hρ:Bo ρ) (hm:P.follows .mixedOrders=true) (hct:Gp P ρ B cf) (hR:FP P ρ B cf) (h2:∀ f,cf2 (BA f)=cf f):∀ C:Code,Ss P ρ B N sm cf2 C:=by
 have hcf:=hct.ok
 intro C
 induction C with
 | skip=>intro rest rOk dom env t t' h n Φ hok ri hx φ a w hT g Q hex hre; exact wp_skip (hre rfl dom env t t' h n hok ri hx φ a w (Fr.refl h φ n w) g hT)
 | label l=>intro rest rOk dom env t t' h n Φ hok ri hx φ a w hT g Q hex hre; exact wp_label (hre rfl dom env t t' h n hok ri hx φ a w (Fr.refl h φ n w) g hT)
 | exit id =>
  intro rest rOk dom env t t' h n Φ hok ri hx φ a w hT g Q hex hre
  exact wp_exit (hex _ _ _ _ hx (fun h=>by cases h) φ a w t (Fr.refl h φ n w) g hT ri.keep)
 | ret =>
  intro rest rOk dom env t t' h n Φ hok ri hx φ a w hT g Q hex hre
  exact wp_ret (hex _ _ _ _ hx (fun h=>by cases h) φ a w t (Fr.refl h φ n w) g hT ri.keep)
 | region id ops draw =>
  intro rest rOk dom env t t' h n Φ hok ri hx φ a w hT g Q hex hre
  cases draw with
  | true =>
   have hok:F1 sm (BY P N ops true) rOk dom=true:=hok
   have hx:(Gk sm cf2 (BY P N ops true) rest env t' h n).sat Φ:=hx
   have hre:(BY P N ops true).ends=false->_:=hre
   unfold BY at hok hx hre
   split at hx
   ·exact hx.elim
   ·rename_i os hos
    simp only [hos,if_true] at hok hre
    simp only [if_true] at hx
    split at hx
    ·rename_i hpl
     rw [if_pos hpl] at hok hre
     have hre:=hre rfl
     have good:=Plot.good_of_ok hpl
     have hok:(Io sm ((BX (ops.toList.map Ck) os).sk.map (KE os)) dom&&rOk (Ig ((BX (ops.toList.map Ck) os).sk.map (KE os)) dom))=true:=hok
     rw [Bool.and_eq_true] at hok
     have run:∀ (b n0:K4),(De sm cf2 b ((BX (ops.toList.map Ck) os).sk.map (KE os)) env t' h h n0 (fun env t _ h n=>rest env t h n)).sat Φ →
       ((BX (ops.toList.map Ck) os).HasAl->b.d = .d0)->((BX (ops.toList.map Ck) os).HasAl->n.toN≤b.toN)->((BX (ops.toList.map Ck) os).HasAl->b.toN+16≤n0.toN)->n.toN≤n0.toN->(Code.region id ops true).wp P Q a w:=fun b n0 hx k1 k2 k3 k4=>by
      obtain ⟨st,env1,t1',s0,hst,ri1,e3⟩:=I6 h2 (s:=⟨t,h,h,n0⟩) hok.1 ri (R.sat_good hx)
      have e3:De sm cf2 b ((BX (ops.toList.map Ck) os).sk.map (KE os)) env t' h h n0 (fun env t _ h n=>rest env t h n)=_:=e3
      rw [e3,List.length_map] at hx
      rw [List.length_map] at ri1
      have r:Rn P N ops os (BX (ops.toList.map Ck) os) cf b st:=⟨good,hos,rfl,fun l x hlx=>hst l _ (by rw [List.getElem?_map,hlx]; rfl)⟩
      refine Re (φ:=φ) hρ hm hcf r s0 k1 k2 k3 k4 hT g fun φ' a' w' f1 g1 T1=>?_
      exact hre _ env1 _ t1' _ _ hok.2 ri1 hx φ' a' w' f1 g1 T1
     have hx:(P9 ((BX (ops.toList.map Ck) os).sk.any SI.isAl) n (fun b n=>De sm cf2 b ((BX (ops.toList.map Ck) os).sk.map (KE os)) env t' h h n fun env t _ h n=>rest env t h n)).sat Φ:=hx
     cases hal:(BX (ops.toList.map Ck) os).sk.any SI.isAl with
     | false =>
      have hn:=Z8 good hal
      rw [hal] at hx
      exact run n n hx (fun h=>absurd h hn) (fun h=>absurd h hn) (fun h=>absurd h hn) (Nat.le_refl _)
     | true =>
      rw [hal] at hx
      have hx:(n.nx16 (fun b=>b.nx16 fun n0=>De sm cf2 b ((BX (ops.toList.map Ck) os).sk.map (KE os)) env t' h h n0 fun env t _ h n=>rest env t h n)).sat Φ:=hx
      rcases K4.nx16_eq n (fun b=>b.nx16 fun n0=>De sm cf2 b ((BX (ops.toList.map Ck) os).sk.map (KE os)) env t' h h n0 fun env t _ h n=>rest env t h n) with ⟨w',e1⟩ | ⟨b,hbn,hb0,e1⟩
      ·rw [e1] at hx; exact hx.elim
      ·rw [e1] at hx
       rcases K4.nx16_eq b (fun n0=>De sm cf2 b ((BX (ops.toList.map Ck) os).sk.map (KE os)) env t' h h n0 fun env t _ h n=>rest env t h n) with ⟨w',e2⟩ | ⟨n0,hn0,_,e2⟩
       ·rw [e2] at hx; exact hx.elim
       ·rw [e2] at hx
        have hbn':=R8 hbn hb0 hn0
        exact run b n0 hx (fun _=>hb0) (fun _=>hbn'.1) (fun _=>by omega) (by omega)
    ·exact hx.elim
  | false =>
   have hok:F1 sm (match KS P N ops ops.toList with | some r=>.spl r.1 r.2.1 r.2.2.1 r.2.2.2 | none=>BY P N ops false) rOk dom=true:=hok
   have hx:(Gk sm cf2 (match KS P N ops ops.toList with | some r=>.spl r.1 r.2.1 r.2.2.1 r.2.2.2 | none=>BY P N ops false) rest env t' h n).sat Φ:=hx
   have hre:AC.ends (match KS P N ops ops.toList with | some r=>.spl r.1 r.2.1 r.2.2.1 r.2.2.2 | none=>BY P N ops false)=false->_:=hre
   cases hspl:KS P N ops ops.toList with
   | some r =>
    rw [hspl] at hok hx hre
    obtain ⟨pre,sp,d,post⟩:=r
    have hre:=hre rfl
    obtain ⟨l1,o,l2,hl,c1,c2,c3,c4,c5⟩:=Mc hspl
    have hok:(G0 sm pre dom&&(Qf sm (CE pre dom) sp&&(G0 sm post (FX d (CE pre dom))&&rOk (CE post (FX d (CE pre dom))))))=true:=hok
    rw [Bool.and_eq_true,Bool.and_eq_true,Bool.and_eq_true] at hok
    obtain ⟨k1,k2,k3,k4⟩:=hok
    have hx:(CM sm cf2 pre env t' h n fun env t h n=>Uw cf2 sp (Bk sm env t) h n fun v h n=>CX sm d t v fun t=>CM sm cf2 post (BM d v env) t h n rest).sat Φ:=hx
    obtain ⟨env1,t2,t2',h2',n2,e2,ri1,H⟩:=Dl (B:=B) (ops:=ops) hρ hcf h2 c1 k1 ri (R.sat_good hx)
    rw [e2] at hx
    refine (wpIn_wide (n:=0)).1 (wpIn_region_list ?_)
    rw [hl]
    refine DM (l:=none) (.inl rfl) (H φ a w hT g Q (wpListIn (Lo none) 0 P ops Q (o::l2)) fun φ' a' w' f1 g1 T1=>?_)
    have one:∀ x:Opd,DN sm (CE pre dom) x=true->∀ κ:V->R,Bk sm env1 t2' x κ=κ (ev x t2):=fun x hk κ=>by
     cases x with
     | c v=>rfl
     | t p=>exact ri1.tell hk κ
    have lst:∀ l:List Opd,l.all (DN sm (CE pre dom))=true->∀ κ:List V->R,Fm (Bk sm env1 t2') l κ=Fm (fun x κ=>κ (ev x t2)) l κ:=fun l hk κ=>by
     rw [Fh (t:=t2) (fun x hx=>one x (List.all_eq_true.1 hk x hx)),Fh (t:=t2) (fun x _ κ=>rfl)]
    have et:Uw cf2 sp (Bk sm env1 t2') h2' n2=Uw cf2 sp (fun x κ=>κ (ev x t2)) h2' n2:=by
     funext κ
     cases sp with
     | rng x=>exact one x k2 _
     | nxt x=>exact one x k2 _
     | ent x=>exact one x k2 _
     | tcl f l=>exact lst l k2 _
     | dcl x l =>
      have k2:(DN sm (CE pre dom) x&&l.all (DN sm (CE pre dom)))=true:=k2
      rw [Bool.and_eq_true] at k2
      exact (one x k2.1 _).trans (lst l k2.2 _)
    rw [et] at hx
    have hw:Region.wanted o (yielded ops a'.tmps)=true:=by simp [Region.wanted,c3]
    have st:=VL (P:=P) (ρ:=ρ) (B:=B) hct hR h2 c2 _ Φ hx φ' a' w' T1 g1 (wpListIn (Lo none) 0 P ops Q l2) Q fun v h3 n3 hs φ2 x w2 f2 g2 r2=>by
     obtain ⟨t3',e3,ri3⟩:=ri1.put d v (fun t=>CM sm cf2 post (BM d v env1) t h3 n3 rest)
     have hs:(CX sm d t2' v fun t=>CM sm cf2 post (BM d v env1) t h3 n3 rest).sat Φ:=hs
     rw [e3] at hs
     obtain ⟨env4,t4,t4',h4,n4,e4,ri4,H4⟩:=Dl (B:=B) (ops:=ops) hρ hcf h2 c5 k3 ri3 (R.sat_good hs)
     rw [e4] at hs
     have:=DM (l:=none) (n:=0) (r:=[]) (.inl rfl) (H4 φ2 _ w2 ((T1.mono f2.ext).puts c4 r2) g2 Q (wpListIn (Lo none) 0 P ops Q []) fun φ3 a3 w3 f3 g3 T3=>hre _ env4 t4 t4' h4 n4 k4 ri4 hs φ3 a3 w3 (Fr.trans f1 (Fr.trans f2 f3)) g3 T3)
     rwa [List.append_nil] at this
    show wpListIn (Lo none) 0 P ops Q (o::l2) a' w'
    simp only [wpListIn]
    rw [if_pos hw]
    exact st
   | none =>
   rw [hspl] at hok hx hre
   have hok:F1 sm (BY P N ops false) rOk dom=true:=hok
   have hx:(Gk sm cf2 (BY P N ops false) rest env t' h n).sat Φ:=hx
   have hre:(BY P N ops false).ends=false->_:=hre
   unfold BY at hok hx hre
   split at hx
   ·exact hx.elim
   ·rename_i al hal
    simp only [hal,Bool.false_eq_true,if_false] at hok hre
    simp only [Bool.false_eq_true,if_false] at hx
    have hre:=hre rfl
    have hok:(G0 sm al dom&&rOk (CE al dom))=true:=hok
    rw [Bool.and_eq_true] at hok
    have hx:(CM sm cf2 al env t' h n rest).sat Φ:=hx
    obtain ⟨env1,t2,t2',h2',n2,e2,ri1,H⟩:=OW (B:=B) (ops:=ops) hρ hcf h2 hal hok.1 ri (R.sat_good hx)
    rw [e2] at hx
    exact wp_region_list (H φ a w hT g Q fun φ' a' w' f1 g1 T1=>hre _ env1 t2 t2' h2' n2 hok.2 ri1 hx φ' a' w' f1 g1 T1)
 | seq x y ihx ihy =>
  intro rest rOk dom env t t' h n Φ hok ri hx φ a w hT g Q hex hre
  have hok:F1 sm (AO P N x) (F1 sm (AO P N y) rOk) dom=true:=hok
  have hx:(Gk sm cf2 (AO P N x) (Gk sm cf2 (AO P N y) rest) env t' h n).sat Φ:=hx
  have hre:or (AO P N x).ends (AO P N y).ends=false->_:=hre
  refine wp_seq (ihx _ _ dom env t t' h n Φ hok ri hx φ a w hT g _ (fun e t1 h1 n1 hΦ hne φ' a' w' tf f1 g1 T1 hk=>?_) fun he dom2 env2 t2 t2' h2' n2 hok2 ri2 hr φ2 a2 w2 f2 g2 T2=>?_)
  ·have:=hex e t1 h1 n1 hΦ hne φ' a' w' tf f1 g1 T1 hk
   cases e with
   | nrm=>exact absurd rfl hne
   | exit id=>exact this
   | ret=>exact this
  ·exact ihy rest rOk dom2 env2 t2 t2' h2' n2 Φ hok2 ri2 hr φ2 a2 w2 T2 g2 Q (fun e t1 h1 n1 hΦ hne φ' a' w' tf f1 g1 T1 hk=>hex e t1 h1 n1 hΦ hne φ' a' w' tf (Fr.trans f2 f1) g1 T1 hk)
    fun he' dom3 env3 t3 t3' h3 n3 hok3 ri3 hr3 φ3 a3 w3 f3 g3 T3=>hre (by rw [he,he']; rfl) dom3 env3 t3 t3' h3 n3 hok3 ri3 hr3 φ3 a3 w3 (Fr.trans f2 f3) g3 T3
 | cond c x y ihx ihy =>
  intro rest rOk dom env t t' h n Φ hok ri hx φ a w hT g Q hex hre
  have hok:F1 sm (match AX N c with | some c=>.cond c (AO P N x) (AO P N y) | none=>.bad "a test") rOk dom=true:=hok
  have hx:(Gk sm cf2 (match AX N c with | some c=>.cond c (AO P N x) (AO P N y) | none=>.bad "a test") rest env t' h n).sat Φ:=hx
  have hre:AC.ends (match AX N c with | some c=>.cond c (AO P N x) (AO P N y) | none=>.bad "a test")=false->_:=hre
  split at hx
  ·rename_i c' hc
   simp only [hc] at hok hre
   have hre:and (AO P N x).ends (AO P N y).ends=false->_:=hre
   have hok:(DN sm dom c'&&br (AO P N x).ends (F1 sm (AO P N x) (fun _=>true) dom&&F1 sm (AO P N y) rOk dom) (br (AO P N y).ends (F1 sm (AO P N x) rOk dom&&F1 sm (AO P N y) (fun _=>true) dom) (F1 sm (AO P N x) (fun _=>true) dom&&(F1 sm (AO P N y) (fun _=>true) dom&&rOk []))))=true:=hok
   rw [Bool.and_eq_true] at hok
   have hx:(Bk sm env t' c' (fun v=>Ly (AO P N x).ends (AO P N y).ends v (Gk sm cf2 (AO P N x)) (Gk sm cf2 (AO P N y)) rest env t' h n)).sat Φ:=hx
   have e0:∀ κ:V->R,Bk sm env t' c' κ=κ (ev c' t):=fun κ=>by
    cases c' with
    | c v=>rfl
    | t p=>exact ri.tell hok.1 κ
   rw [e0] at hx
   have g1:=An hc hT
   generalize hv:ev c' t=v at hx g1
   obtain ⟨_,hok⟩:=hok
   unfold Ly at hx
   -- the value is a bool
   have key:∀ (A C:R) (κ:R->R),(∀ s,κ (.fail s) = .fail s)->(∀ x y,κ (.both x y) = .both (κ x) (κ y))->(κ (Al v A C)).sat Φ->∃ q,a.eval c = .bool q∧(κ (br q A C)).sat Φ:=fun A C κ hκ hb hh=>by
    have no:(κ (.fail "")).sat Φ->∃ q,a.eval c = .bool q∧(κ (br q A C)).sat Φ:=fun hh=>by rw [hκ] at hh; exact hh.elim
    cases v with
    | bool q=>exact ⟨q,Dv g1,by cases q <;> exact hh⟩
    | oth o=>cases o with
     | bl =>
      have g1:=g1
      simp only [AL] at g1
      obtain ⟨q,hq⟩:=g1
      have hh:(κ (.both A C)).sat Φ:=hh
      rw [hb] at hh
      exact ⟨q,hq,by cases q; exact hh.2; exact hh.1⟩
     | _=>exact no hh
    | _=>exact no hh
   cases hex':(AO P N x).ends with
   | true =>
    rw [hex'] at hx hok hre
    have hok:(F1 sm (AO P N x) (fun _=>true) dom&&F1 sm (AO P N y) rOk dom)=true:=hok
    rw [Bool.and_eq_true] at hok
    obtain ⟨q,hq,hx⟩:=key _ _ id (fun _=>rfl) (fun _ _=>rfl) hx
    refine wp_cond hq ?_
    cases q with
    | true=>exact ihx r0 _ dom env t t' h n Φ hok.1 ri hx φ a w hT g Q hex fun he=>by rw [hex'] at he; cases he
    | false=>exact ihy rest rOk dom env t t' h n Φ hok.2 ri hx φ a w hT g Q hex fun he=>hre (by rw [he]; rfl)
   | false =>
    rw [hex'] at hx hok hre
    have hre:=hre rfl
    cases hey:(AO P N y).ends with
    | true =>
     rw [hey] at hx hok
     have hok:(F1 sm (AO P N x) rOk dom&&F1 sm (AO P N y) (fun _=>true) dom)=true:=hok
     rw [Bool.and_eq_true] at hok
     obtain ⟨q,hq,hx⟩:=key _ _ id (fun _=>rfl) (fun _ _=>rfl) hx
     refine wp_cond hq ?_
     cases q with
     | true=>exact ihx rest rOk dom env t t' h n Φ hok.1 ri hx φ a w hT g Q hex fun _=>hre
     | false=>exact ihy r0 _ dom env t t' h n Φ hok.2 ri hx φ a w hT g Q hex fun he=>by rw [hey] at he; cases he
    | false =>
     rw [hey] at hx hok
     have hok:(F1 sm (AO P N x) (fun _=>true) dom&&(F1 sm (AO P N y) (fun _=>true) dom&&rOk []))=true:=hok
     rw [Bool.and_eq_true,Bool.and_eq_true] at hok
     obtain ⟨q,hq,hx⟩:=key _ _ (fun r=>At r fun t h n=>rest [] t h n) (fun _=>rfl) (fun _ _=>rfl) hx
     refine wp_cond hq ?_
     have fin:∀ (Z:Code),Te P ρ B N sm Z t h n (Qp (fun t h n=>rest [] t h n) Φ)->Z.wp P Q a w:=fun Z HZ=>by
      refine HZ φ a w hT g Q fun e0 t0 h0 n0 hj φ' a' w' tf f1 g1 T1 hk=>?_
      cases e0 with
      | nrm=>exact hre [] [] tf t0 h0 n0 hok.2.2 (RI.start ri.inj hk) hj φ' a' w' f1 g1 T1
      | exit id=>exact hex _ _ _ _ hj (fun h=>by cases h) φ' a' w' tf f1 g1 T1 hk
      | ret=>exact hex _ _ _ _ hj (fun h=>by cases h) φ' a' w' tf f1 g1 T1 hk
     cases q with
     | true=>exact fin x (ihx.join hok.1 ri (DH hx))
     | false=>exact fin y (ihy.join hok.2.1 ri (DH hx))
  ·exact hx.elim
 | block id b ih =>
  intro rest rOk dom env t t' h n Φ hok ri hx φ a w hT g Q hex hre
  have hok:(F1 sm (AO P N b) (fun _=>true) dom&&rOk [])=true:=hok
  rw [Bool.and_eq_true] at hok
  have hx:(Ac id (Gk sm cf2 (AO P N b) r0 env t' h n) (fun t h n=>rest [] t h n)).sat Φ:=hx
  have hre:=hre rfl
  refine wp_block (ih.join hok.1 ri (FI hx) φ a w hT g _ fun e0 t0 h0 n0 hx φ' a' w' tf f1 g1 T1 hk=>?_)
  cases e0 with
  | nrm=>exact hre [] [] tf t0 h0 n0 hok.2 (RI.start ri.inj hk) hx φ' a' w' f1 g1 T1
  | exit j =>
   show (if j=id then Q .normal a' w' else Q (.exit j) a' w')
   rcases hx with ⟨hj,hx⟩ | ⟨hj,hx⟩
   ·rw [if_pos hj]; exact hre [] [] tf t0 h0 n0 hok.2 (RI.start ri.inj hk) hx φ' a' w' f1 g1 T1
   ·rw [if_neg hj]; exact hex _ _ _ _ hx (fun h=>by cases h) φ' a' w' tf f1 g1 T1 hk
  | ret=>exact hex _ _ _ _ hx (fun h=>by cases h) φ' a' w' tf f1 g1 T1 hk
 | loop b ih =>
  intro rest rOk dom env t t' h n Φ hok ri hx φ a w hT g Q hex hre
  have hok:F1 sm (AO P N b) (fun _=>true) []=true:=hok
  have hx:(Et (fun t h n=>Gk sm cf2 (AO P N b) r0 [] t h n) 1000000000 t' h n).sat Φ:=hx
  refine wp_loop_rounds 1000000000 ?_
  have key:∀ (k:Nat) (t:Regs) (t':S) (h:Heap) (n:K4),(∀ p s,BI p sm=some s->S.get s t'=Bg p t)->(Et (fun t h n=>Gk sm cf2 (AO P N b) r0 [] t h n) k t' h n).sat Φ->∀ φ a w,TR ρ N φ t a->Gam ρ B h n φ w →
    (∀ e t1 h1 n1,Φ (.ok e t1 h1 n1)->e ≠ .nrm->∀ φ' a' w' tf,Fr h h1 φ φ' n n1 w w'->Gam ρ B h1 n1 φ' w'->TR ρ N φ' tf a'->(∀ p s,BI p sm=some s->S.get s t1=Bg p tf)->Q (IP e) a' w')->Code.rounds P b Q k a w:=by
   intro k
   induction k with
   | zero=>intro t t' h n _ hx; exact hx.elim
   | succ k ihk =>
    intro t t' h n hk0 hx φ a w hT g hQ
    refine ih.join hok (RI.start ri.inj hk0) (Tn hx) φ a w hT g _ fun e0 t0 h0 n0 hx φ' a' w' tf f1 g1 T1 hk=>?_
    cases e0 with
    | nrm=>exact ihk tf t0 h0 n0 hk hx φ' a' w' T1 g1 fun e t1 h1 n1 hΦ hne φ2 a2 w2 tf2 f2 g2 T2 hk2=>hQ e t1 h1 n1 hΦ hne φ2 a2 w2 tf2 (Fr.trans f1 f2) g2 T2 hk2
    | exit id=>exact hQ _ _ _ _ hx (fun h=>by cases h) φ' a' w' tf f1 g1 T1 hk
    | ret=>exact hQ _ _ _ _ hx (fun h=>by cases h) φ' a' w' tf f1 g1 T1 hk
  exact key _ t t' h n ri.keep hx φ a w hT g hex
 | rangeFunc _ _ _ _=>intro rest rOk dom env t t' h n Φ hok ri hx; exact hx.elim
 | scope _=>intro rest rOk dom env t t' h n Φ hok ri hx; exact hx.elim
 | goto _=>intro rest rOk dom env t t' h n Φ hok ri hx; exact hx.elim
 | refuse _=>intro rest rOk dom env t t' h n Φ hok ri hx; exact hx.elim
end
end Go.Ev

namespace Go.Ev
set_option linter.unusedVariables false
def UM (v:V):List K4->List K4 :=
 @V.rec (fun _=>List K4->List K4) (fun _=>List K4->List K4)
  (fun _ _ a=>a) (fun _ a=>a) (fun p _ a=>p::a) (fun p _ _ _ _ _ a=>p::a) (fun _ _ a=>a) (fun _ ih a=>ih a) (fun _ a=>a) (fun p a=>p::a) (fun _ _ ih a=>ih a) (fun _ ih a=>ih a) (fun _ a=>a)
  (fun a=>a) (fun _ _ ihx ihl a=>ihx (ihl a)) v
def SS (l:List V) (a:List K4):List K4:=@List.rec V (fun _=>List K4) a (fun v _ ih=>UM v ih) l
def plsE (es:List (V×V)) (a:List K4):List K4:=@List.rec (V×V) (fun _=>List K4) a (fun e _ ih=>@Prod.rec V V (fun _=>List K4) (fun x y=>UM x (UM y ih)) e) es
def SF (o:Ob) (a:List K4):List K4 :=
 @Ob.rec (fun _=>List K4) (fun cs _ _=>@Cs.rec (fun _=>List K4) (fun xs=>SS xs a) (fun _ _=>a) cs) (fun es _ _=>plsE es a) (fun _ _ _ _=>a) a (fun _ _=>a) o
def GH (o:Ob):Bool:=@Ob.rec (fun _=>Bool) (fun _ sup _=>@Bool.rec (fun _=>Bool) true false sup) (fun _ _ _=>true) (fun _ _ _ _=>false) false (fun _ _=>false) o
def MM (o:Ob):Ob:=@Ob.rec (fun _=>Ob) (fun cs sup _=>.c cs sup none) (fun es bs c=>.m es bs c) (fun p s l c=>.it p s l c) .it0 (fun f b=>.lp f b) o
theorem GP (o:Ob):BQ (MM o)=none:=by cases o <;> rfl
theorem PX {ρ:Env} {φ:B9} {w:World} {o:Ob} {b s tot:Nat} (h:Fd ρ φ w o b s tot):Fd ρ φ w (MM o) b s tot:=by cases o <;> exact h
def Dy (h:Heap) (k:Nat):List K4->Heap->List K4->(Heap->List K4->R)->R :=
 @Nat.rec (fun _=>List K4->Heap->List K4->(Heap->List K4->R)->R) (fun _ hs acc κ=>κ hs acc)
  (fun _ ih todo hs acc κ=>@List.rec K4 (fun _=>R) (κ hs acc) (fun p todo _=>Br p hs fun o=>@Option.rec Ob (fun _=>R)
   (Br p h fun o=>@Option.rec Ob (fun _=>R) (ih todo hs acc κ) (fun ob=>br (GH ob) (BD p hs (some (MM ob)) fun hs=>ih (SF ob todo) hs (p::acc) κ) (ih todo hs acc κ)) o)
   (fun _=>ih todo hs acc κ) o) todo) k
def MC (p n:K4):Bool:=Nat.ble (Nat.succ p.toN) n.toN
def ES (n:K4) (v:V):Bool :=
 @V.rec (fun _=>Bool) (fun _=>Bool)
  (fun _ _=>true) (fun _=>true) (fun p _=>MC p n) (fun p _ _ _ _ _=>MC p n) (fun _ _=>true) (fun _ ih=>ih) (fun _=>true) (fun p=>MC p n) (fun _ _ ih=>ih) (fun _ ih=>ih) (fun o=>@Ot.rec (fun _=>Bool) true (fun _=>true) (fun p=>MC p n) false (fun _ _ _=>true) (fun _ _=>true) true (fun _ _=>true) (fun _ _ _ _=>true) (fun _ _ _ _=>true) (fun _ _ _=>true) (fun _ _=>true) o)
  true (fun _ _ ihx ihl=>br ihx ihl false) v
def Ko (n:K4) (l:List V):Bool:=ES n (.tup l)
def Jz (p:Option K4) (κ:R):R:=@Option.rec K4 (fun _=>R) κ (Bc "") p
def P4 (n:K4) (a b:Cs) (κ:R):R :=
 @Cs.rec (fun _=>R) (fun xs=>@Cs.rec (fun _=>R) (fun ys=>br (Ko n xs) (AB (.tup xs) (.tup ys) κ) (.fail "")) (AV "") b)
  (fun m c=>@Cs.rec (fun _=>R) (Bc "") (fun m' c'=>br (Nat.beq m m') (br (Nat.beq c c') κ (.fail "")) (.fail "")) b) a
def JK (n:K4) (a:List (V×V)):List (V×V)->R->R :=
 @List.rec (V×V) (fun _=>List (V×V)->R->R) (fun b κ=>@List.rec (V×V) (fun _=>R) κ (C2 "") b)
  (fun e _ ih b κ=>@List.rec (V×V) (fun _=>R) (.fail "") (fun e' b _=>@Prod.rec V V (fun _=>R) (fun x y=>@Prod.rec V V (fun _=>R) (fun x' y'=>br (ES n x) (br (ES n y) (AB x x' (AB y y' (ih b κ))) (.fail "")) (.fail "")) e') e) b) a
def KJ (a:List Nat):List Nat->R->R :=
 @List.rec Nat (fun _=>List Nat->R->R) (fun b κ=>@List.rec Nat (fun _=>R) κ (C2 "") b)
  (fun x _ ih b κ=>@List.rec Nat (fun _=>R) (.fail "") (fun y b _=>br (Nat.beq x y) (ih b κ) (.fail "")) b) a
def Qy (n:K4) (a b:Ob) (κ:R):R :=
 @Ob.rec (fun _=>R) (fun cs sup prev=>br sup (.fail "") (Jz prev (@Ob.rec (fun _=>R) (fun cs' sup' prev'=>br sup' (.fail "") (Jz prev' (P4 n cs cs' κ))) (C2 "") (FF "") (.fail "") (AV "") b)))
  (fun es bs c=>@Ob.rec (fun _=>R) (C2 "") (fun es' bs' c'=>br (Nat.beq c c') (KJ bs bs' (JK n es es' κ)) (.fail "")) (FF "") (.fail "") (AV "") b) (FF "") (.fail "") (AV "") a
def GC (n:K4) (a b:Ch) (κ:R):R :=
 @Option.rec Ob (fun _=>R) (@Option.rec Ob (fun _=>R) κ (Bc "") b) (fun x=>@Option.rec Ob (fun _=>R) (.fail "") (fun y=>Qy n x y κ) b) a
def FS (n:K4) (h1 h':Heap) (acc:List K4) (κ:R):R :=
 @List.rec K4 (fun _=>R) κ (fun p _ ih=>Br p h1 fun a=>Br p h' fun b=>GC n a b ih) acc
def WV (n:K4) (p:Option K4):Option K4:=@Option.rec K4 (fun _=>Option K4) none (fun q=>@Bool.rec (fun _=>Option K4) none (some q) (MC q n)) p
def II (n:K4) (o:Ch):Ch:=@Option.rec Ob (fun _=>Ch) none (fun o=>some (@Ob.rec (fun _=>Ob) (fun cs sup prev=>.c cs sup (WV n prev)) (fun es bs c=>.m es bs c) (fun p s l c=>.it p s l c) .it0 (fun f b=>.lp f b) o)) o
def HS (n:K4) (v1:V) (h1:Heap) (v':V) (h':Heap) (κ:R):R :=
 br (ES n v1) (AB v1 v' κ) (CU v1 (.fail "") fun p off len cap ex esz=>CU v' (.fail "") fun p' off' len' cap' ex' esz' =>
  br (MC p n) (.fail "") (br (MC p' n) (.fail "") (AB (.sl p off len cap ex esz) (.sl p off' len' cap' ex' esz') (Br p h1 fun a=>Br p' h' fun b=>GC n (II n a) (II n b) κ))))
def OY (r:R):(V->Heap->R)->R :=
 @R.rec (fun _=>(V->Heap->R)->R) (fF5 "") (fun v h _ κ=>κ v h) (fun w _=>.fail w) (fun _ _ iha _ κ=>iha κ) r
def TA (a b:K4) (κ:K4->R):R:=br (Nat.ble a.toN b.toN) (κ b) (κ a)
def S4 (n:K4) (v1:V) (h1:Heap) (acc:List K4) (r:R):K4->(K4->R)->R :=
 @R.rec (fun _=>K4->(K4->R)->R) (Dq "") (fun v h m mx κ=>HS n v1 h1 v h (FS n h1 h acc (TA m mx κ))) (fun w _ _=>.fail w) (fun _ _ iha ihb mx κ=>iha mx fun mx=>ihb mx κ) r
def PS (o:Ob) (h:Heap) (κ:Heap->R):R:=@Ob.rec (fun _=>R) (fun _ _ prev=>@Option.rec K4 (fun _=>R) (κ h) (fun q=>BD q h none κ) prev) (fun _ _ _=>κ h) (fun _ _ _ _=>κ h) (κ h) (fun _ _=>κ h) o
def O9 (h h1:Heap) (acc:List K4):(Heap->R)->R :=
 @List.rec K4 (fun _=>(Heap->R)->R) (fun κ=>κ h)
  (fun p _ ih κ=>ih fun hf=>Br p h fun o=>@Option.rec Ob (fun _=>R) (.fail "") (fun o=>PS o hf fun hf=>Br p h1 fun o1=>BD p hf o1 κ) o) acc
def Vn (n:K4) (v1:V) (h1 hf:Heap) (m:K4):R :=
 br (ES n v1) (.rv v1 hf m) (CU v1 (.fail "") fun p off len cap ex esz=>Br p h1 fun o=>@Option.rec Ob (fun _=>R) (.fail "") (fun ob=>BD m hf (some ob) fun hf=>m.nx fun m'=>.rv (.sl m off len cap ex esz) hf m') (II n o))
def Vl (n:K4) (h:Heap) (acc:List K4) (r:R):R :=
 OY r fun v1 h1=>S4 n v1 h1 acc r n fun m=>O9 h h1 acc fun hf=>Vn n v1 h1 hf m
def Xu (k:Nat) (run:Heap->R) (args:List V) (h:Heap) (n:K4):R :=
 Dy h k (SS args []) AF [] fun hs acc=>Vl n h acc (run hs)
section
variable {P:Program} {ρ:Env} {B:Nat}
structure Sub (h hs:Heap) (acc:List K4):Prop where
 sub:∀ p o,AM p hs=some o->∃ o0,AM p h=some o0∧o=MM o0∧GH o0=true∧p∈acc
 has:∀ p,p∈acc->∃ o,AM p hs=some o
theorem Sub.mem {h hs:Heap} {acc:List K4} (s:Sub h hs acc) {p:K4} {o:Ob} (hp:AM p hs=some o):p∈acc:=by
 obtain ⟨_,_,_,_,m⟩:=s.sub p o hp; exact m
theorem Sub.in_h {h hs:Heap} {acc:List K4} (s:Sub h hs acc) {p:K4} {o:Ob} (hp:AM p hs=some o):∃ o0,AM p h=some o0:=by
 obtain ⟨o0,e,_⟩:=s.sub p o hp; exact ⟨o0,e⟩
theorem Eo {h:Heap}:∀ (k:Nat) {todo:List K4} {hs:Heap} {acc:List K4} {κ:Heap->List K4->R},Sub h hs acc->∃ hs' acc',Sub h hs' acc'∧Dy h k todo hs acc κ=κ hs' acc'
 | 0,todo,hs,acc,κ,s=>⟨hs,acc,s,rfl⟩
 | k+1,[],hs,acc,κ,s=>⟨hs,acc,s,rfl⟩
 | k+1,p::todo,hs,acc,κ,s=>by
  have e:Dy h (k+1) (p::todo) hs acc κ=Br p hs fun o=>@Option.rec Ob (fun _=>R)
   (Br p h fun o=>@Option.rec Ob (fun _=>R) (Dy h k todo hs acc κ) (fun ob=>br (GH ob) (BD p hs (some (MM ob)) fun hs=>Dy h k (SF ob todo) hs (p::acc) κ) (Dy h k todo hs acc κ)) o)
   (fun _=>Dy h k todo hs acc κ) o:=rfl
  rw [e,BC]
  cases h1:AM p hs with
  | some o=>exact Eo k s
  | none =>
   show ∃ hs' acc',Sub h hs' acc'∧(Br p h fun o=>@Option.rec Ob (fun _=>R) (Dy h k todo hs acc κ) (fun ob=>br (GH ob) (BD p hs (some (MM ob)) fun hs=>Dy h k (SF ob todo) hs (p::acc) κ) (Dy h k todo hs acc κ)) o)=κ hs' acc'
   rw [BC]
   cases h2:AM p h with
   | none=>exact Eo k s
   | some ob =>
    show ∃ hs' acc',Sub h hs' acc'∧br (GH ob) (BD p hs (some (MM ob)) fun hs=>Dy h k (SF ob todo) hs (p::acc) κ) (Dy h k todo hs acc κ)=κ hs' acc'
    cases h3:GH ob with
    | false=>exact Eo k s
    | true =>
     show ∃ hs' acc',Sub h hs' acc'∧(BD p hs (some (MM ob)) fun hs=>Dy h k (SF ob todo) hs (p::acc) κ)=κ hs' acc'
     rw [BO,BB]
     refine Eo k ⟨fun q o hq=>?_,fun q hq=>?_⟩
     ·rcases By hq with ⟨rfl,e⟩ | ⟨hne,hq⟩
      ·cases e; exact ⟨ob,h2,rfl,h3,List.mem_cons_self ..⟩
      ·obtain ⟨o0,a,e,b,c⟩:=s.sub q o hq; exact ⟨o0,a,e,b,List.mem_cons_of_mem _ c⟩
     ·by_cases e:p=q
      ·subst e; exact ⟨MM ob,AG _ _ _⟩
      ·rw [Ay _ _ e]
       rcases List.mem_cons.1 hq with e' | hq
       ·exact absurd e'.symm e
       ·exact s.has q hq
theorem Sub.nil {h:Heap}:Sub h AF []:=⟨fun p o hp=>(by rw [Cq] at hp; cases hp),fun p hp=>(by simp at hp)⟩
theorem FO {p n:K4}:MC p n=true ↔ p.toN<n.toN:=by unfold MC; rw [Ar]; omega
mutual
theorem Er {n:K4} {φ1 φ2:B9} (hφ:∀ p x,p.toN<n.toN->φ1 p=some x->φ2 p=some x):∀ {v:V} {x:Value},ES n v=true->AL ρ φ1 v x->AL ρ φ2 v x
 | .int _ _,_,_,r=>by simpa only [AL] using r
 | .bool _,_,_,r=>by simpa only [AL] using r
 | .ptr p _,_,ho,r=>by
  have ho:MC p n=true:=ho
  simp only [AL] at r ⊢
  obtain ⟨b,s,tot,hp,e⟩:=r
  exact ⟨b,s,tot,hφ _ _ (FO.1 ho) hp,e⟩
 | .sl p _ _ _ _ _,_,ho,r=>by
  have ho:MC p n=true:=ho
  simp only [AL] at r ⊢
  obtain ⟨b,s,tot,o,c,hp,e⟩:=r
  exact ⟨b,s,tot,o,c,hφ _ _ (FO.1 ho) hp,e⟩
 | .str _ _,_,_,r=>by simpa only [AL] using r
 | .agg l,_,ho,r=>by
  have ho:Ko n l=true:=ho
  simp only [AL] at r ⊢
  obtain ⟨cs,e,hl,hh⟩:=r
  exact ⟨cs,e,FH hφ ho hl,hh⟩
 | .nil _,_,_,r=>by simpa only [AL] using r
 | .map p,_,ho,r=>by
  have ho:MC p n=true:=ho
  simp only [AL] at r ⊢
  obtain ⟨b,s,tot,hp,e⟩:=r
  exact ⟨b,s,tot,hφ _ _ (FO.1 ho) hp,e⟩
 | .fn _ l,_,ho,r=>by
  have ho:Ko n l=true:=ho
  simp only [AL] at r ⊢
  obtain ⟨cs,e,hl⟩:=r
  exact ⟨cs,e,FH hφ ho hl⟩
 | .tup l,_,ho,r=>by
  have ho:Ko n l=true:=ho
  simp only [AL] at r ⊢
  obtain ⟨cs,e,hl⟩:=r
  exact ⟨cs,e,FH hφ ho hl⟩
 | .oth o,_,ho,r=>by
  cases o with
  | yl p =>
   have ho:MC p n=true:=ho
   simp only [AL] at r ⊢
   obtain ⟨b,s,tot,hp,e⟩:=r
   exact ⟨b,s,tot,hφ _ _ (FO.1 ho) hp,e⟩
  | _=>simp only [AL] at r ⊢ <;> exact r
theorem FH {n:K4} {φ1 φ2:B9} (hφ:∀ p x,p.toN<n.toN->φ1 p=some x->φ2 p=some x):∀ {l:List V} {xs:List Value},Ko n l=true->Bs ρ φ1 l xs->Bs ρ φ2 l xs
 | [],_,_,r=>by simpa only [Bs] using r
 | v::l,_,ho,r=>by
  have ho:br (ES n v) (Ko n l) false=true:=ho
  simp only [Bs] at r ⊢
  obtain ⟨y,ys,e,hy,hys⟩:=r
  cases h1:ES n v with
  | false=>rw [h1] at ho; cases ho
  | true =>
   rw [h1] at ho
   exact ⟨y,ys,e,Er hφ h1 hy,FH hφ ho hys⟩
end
theorem NO {n:K4}:∀ {l:List V},Ko n l=true->∀ v∈l,ES n v=true
 | [],_,v,hv=>by simp at hv
 | x::l,ho,v,hv=>by
  have ho:br (ES n x) (Ko n l) false=true:=ho
  cases h1:ES n x with
  | false=>rw [h1] at ho; cases ho
  | true =>
   rw [h1] at ho
   rcases List.mem_cons.1 hv with e | hv
   ·subst e; exact h1
   ·exact NO (show Ko n l=true from ho) v hv
def Jj (n:K4):Ob->Prop
 | .c (.l xs) sup prev=>Ko n xs=true∧sup=false∧prev=none
 | .c (.b _ _) sup prev=>sup=false∧prev=none
 | .m es _ _=>∀ e∈es,ES n e.1=true∧ES n e.2=true
 | _=>False
theorem Jj.prev {n:K4} {o:Ob} (h:Jj n o):BQ o=none:=by
 cases o with
 | c cs sup prev=>cases cs with
  | l xs=>exact h.2.2
  | b m c=>exact h.2
 | m es bs c=>rfl
 | it _ _ _ _=>exact h.elim
 | it0=>exact h.elim
 | lp _ _=>exact h.elim
theorem Jj.sup {n:K4} {o:Ob} (h:Jj n o):Ie o=false:=by
 cases o with
 | c cs sup prev=>cases cs with
  | l xs=>exact h.2.1
  | b m c=>exact h.1
 | m es bs c=>rfl
 | it _ _ _ _=>exact h.elim
 | it0=>exact h.elim
 | lp _ _=>exact h.elim
theorem QE {n:K4} {o:Ch} {ob:Ob} (h:II n o=some ob):∃ obr,o=some obr∧(BQ ob=none->∀ q,BQ obr=some q->n.toN≤q.toN) ∧ ∀ {φ:B9} {w:World} {b s tot:Nat},Fd ρ φ w obr b s tot->Fd ρ φ w ob b s tot:=by
 cases o with
 | none=>cases h
 | some obr =>
  refine ⟨obr,rfl,?_⟩
  cases obr with
  | c cs sup prev =>
   have h:some (Ob.c cs sup (WV n prev))=some ob:=h
   cases h
   refine ⟨fun hp q hq=>?_,fun k=>k⟩
   have hq:prev=some q:=hq
   subst hq
   have hp:@Bool.rec (fun _=>Option K4) none (some q) (MC q n)=none:=hp
   cases hl:MC q n with
   | true=>rw [hl] at hp; cases hp
   | false =>
    rcases Nat.lt_or_ge q.toN n.toN with h | h
    ·rw [FO.2 h] at hl; cases hl
    ·exact h
  | m _ _ _=>cases h; exact ⟨fun _ q hq=>(by cases hq),fun k=>k⟩
  | it _ _ _ _=>cases h; exact ⟨fun _ q hq=>(by cases hq),fun k=>k⟩
  | it0=>cases h; exact ⟨fun _ q hq=>(by cases hq),fun k=>k⟩
  | lp _ _=>cases h; exact ⟨fun _ q hq=>(by cases hq),fun k=>k⟩
theorem JS {n:K4} {φ1 φ2:B9} (hφ:∀ p x,p.toN<n.toN->φ1 p=some x->φ2 p=some x) {w:World} {o:Ob} {b s tot:Nat} (ho:Jj n o) (k:Fd ρ φ1 w o b s tot):Fd ρ φ2 w o b s tot:=by
 cases o with
 | c cs sup prev =>
  obtain ⟨c,e,fr,h1,h2,h3,h4,h5⟩:=k
  refine ⟨c,e,fr,h1,h2,h3,h4,fun i v hv=>?_⟩
  obtain ⟨x,k1,k2,k3⟩:=h5 i v hv
  refine ⟨x,k1,?_,k3⟩
  cases cs with
  | l xs=>exact Er hφ (NO ho.1 v (List.mem_of_getElem? hv)) k2
  | b m c =>
   by_cases hi:i<m
   ·rw [Cs.b_pos hi] at hv; cases hv; exact Er hφ rfl k2
   ·rw [Cs.b_neg hi] at hv; cases hv
 | m es bs clk =>
  obtain ⟨ents,h1,h2,h3⟩:=k
  refine ⟨ents,h1,?_,h3⟩
  have ho':∀ e∈es,ES n e.1=true∧ES n e.2=true:=ho
  clear h1 h3 ho
  generalize ents.toList=l at h2
  induction es generalizing l with
  | nil=>exact h2
  | cons e es ih =>
   obtain ⟨y,ys,rfl,k1,k2,k3⟩:=h2
   obtain ⟨o1,o2⟩:=ho' e (List.mem_cons_self ..)
   exact ⟨y,ys,rfl,Er hφ o1 k1,Er hφ o2 k2,ih (fun e he=>ho' e (List.mem_cons_of_mem _ he)) _ k3⟩
 | it _ _ _ _=>exact ho.elim
 | it0=>exact ho.elim
 | lp _ _=>exact ho.elim
theorem Ky {p:Option K4} {κ:R} (h:(Jz p κ).good):p=none∧Jz p κ=κ:=by
 cases p with
 | none=>exact ⟨rfl,rfl⟩
 | some q=>exact h.elim
theorem IW:∀ {a b:List Nat} {κ:R},(KJ a b κ).good->a=b∧KJ a b κ=κ
 | [],[],κ,_=>⟨rfl,rfl⟩
 | [],_::_,κ,h=>h.elim
 | _::_,[],κ,h=>h.elim
 | x::a,y::b,κ,h=>by
  have h:R.good (br (Nat.beq x y) (KJ a b κ) (.fail "")):=h
  obtain ⟨h1,e1⟩:=Ap h
  rw [e1] at h
  obtain ⟨h2,e2⟩:=IW h
  exact ⟨by rw [Nat.eq_of_beq_eq_true h1,h2],Eq.trans e1 e2⟩
theorem IY {n:K4}:∀ {a b:List (V×V)} {κ:R},(JK n a b κ).good->a=b∧(∀ e∈a,ES n e.1=true∧ES n e.2=true)∧JK n a b κ=κ
 | [],[],κ,_=>⟨rfl,fun e he=>by simp at he,rfl⟩
 | [],_::_,κ,h=>h.elim
 | _::_,[],κ,h=>h.elim
 | (x,y)::a,(x',y')::b,κ,h=>by
  have h:R.good (br (ES n x) (br (ES n y) (AB x x' (AB y y' (JK n a b κ))) (.fail "")) (.fail "")):=h
  obtain ⟨h1,e1⟩:=Ap h
  rw [e1] at h
  obtain ⟨h2,e2⟩:=Ap h
  rw [e2] at h
  obtain ⟨h3,e3⟩:=DK h
  rw [e3] at h
  obtain ⟨h4,e4⟩:=DK h
  rw [e4] at h
  obtain ⟨h5,h6,e5⟩:=IY h
  refine ⟨by rw [h3,h4,h5],fun e he=>?_,Eq.trans e1 (e2.trans (e3.trans (e4.trans e5)))⟩
  rcases List.mem_cons.1 he with e' | he
  ·subst e'; exact ⟨h1,h2⟩
  ·exact h6 e he
theorem Ps {n:K4} {a b:Ob} {κ:R} (h:(Qy n a b κ).good):a=b∧Jj n a∧Qy n a b κ=κ:=by
 cases a with
 | c cs sup prev =>
  have h0:R.good (br sup (.fail "") (Jz prev (@Ob.rec (fun _=>R) (fun cs' sup' prev'=>br sup' (.fail "") (Jz prev' (P4 n cs cs' κ))) (C2 "") (FF "") (.fail "") (AV "") b))):=h
  obtain ⟨h1,e1⟩:=Fu h0
  rw [e1] at h0
  obtain ⟨h2,e2⟩:=Ky h0
  rw [e2] at h0
  cases b with
  | c cs' sup' prev' =>
   have h0:R.good (br sup' (.fail "") (Jz prev' (P4 n cs cs' κ))):=h0
   obtain ⟨h3,e3⟩:=Fu h0
   rw [e3] at h0
   obtain ⟨h4,e4⟩:=Ky h0
   rw [e4] at h0
   subst h1 h2 h3 h4
   cases cs with
   | l xs=>cases cs' with
    | l ys =>
     have h0:R.good (br (Ko n xs) (AB (.tup xs) (.tup ys) κ) (.fail "")):=h0
     obtain ⟨h5,e5⟩:=Ap h0
     rw [e5] at h0
     obtain ⟨h6,e6⟩:=DK h0
     cases h6
     exact ⟨rfl,⟨h5,rfl,rfl⟩,Eq.trans e5 e6⟩
    | b m c=>exact h0.elim
   | b m c=>cases cs' with
    | l ys=>exact h0.elim
    | b m' c' =>
     have h0:R.good (br (Nat.beq m m') (br (Nat.beq c c') κ (.fail "")) (.fail "")):=h0
     obtain ⟨h5,e5⟩:=Ap h0
     rw [e5] at h0
     obtain ⟨h6,e6⟩:=Ap h0
     exact ⟨by rw [Nat.eq_of_beq_eq_true h5,Nat.eq_of_beq_eq_true h6],⟨rfl,rfl⟩,Eq.trans e5 e6⟩
  | m _ _ _=>exact h0.elim
  | it _ _ _ _=>exact h0.elim
  | it0=>exact h0.elim
  | lp _ _=>exact h0.elim
 | m es bs c=>cases b with
  | m es' bs' c' =>
   have h0:R.good (br (Nat.beq c c') (KJ bs bs' (JK n es es' κ)) (.fail "")):=h
   obtain ⟨h1,e1⟩:=Ap h0
   rw [e1] at h0
   obtain ⟨h2,e2⟩:=IW h0
   rw [e2] at h0
   obtain ⟨h3,h4,e3⟩:=IY h0
   refine ⟨by rw [Nat.eq_of_beq_eq_true h1,h2,h3],h4,Eq.trans e1 (e2.trans e3)⟩
  | c _ _ _=>exact h.elim
  | it _ _ _ _=>exact h.elim
  | it0=>exact h.elim
  | lp _ _=>exact h.elim
 | it _ _ _ _=>exact h.elim
 | it0=>exact h.elim
 | lp _ _=>exact h.elim
theorem J6 {n:K4} {a b:Ch} {κ:R} (h:(GC n a b κ).good):a=b∧(∀ o,a=some o->Jj n o)∧GC n a b κ=κ:=by
 cases a with
 | none=>cases b with
  | none=>exact ⟨rfl,fun o h=>(by cases h),rfl⟩
  | some y=>exact h.elim
 | some x=>cases b with
  | none=>exact h.elim
  | some y =>
   obtain ⟨h1,h2,e⟩:=Ps (show R.good (Qy n x y κ) from h)
   subst h1
   exact ⟨rfl,fun o h=>(by cases h; exact h2),e⟩
theorem I9 {n:K4} {h1 h':Heap}:∀ {acc:List K4} {κ:R},(FS n h1 h' acc κ).good->(∀ p∈acc,AM p h1=AM p h' ∧ ∀ o,AM p h1=some o->Jj n o)∧FS n h1 h' acc κ=κ
 | [],κ,_=>⟨fun p hp=>by simp at hp,rfl⟩
 | q::acc,κ,h=>by
  have e0:FS n h1 h' (q::acc) κ=GC n (AM q h1) (AM q h') (FS n h1 h' acc κ):=by
   show (Br q h1 fun a=>Br q h' fun b=>GC n a b (FS n h1 h' acc κ))=_
   rw [BC,BC]
  rw [e0] at h
  obtain ⟨a1,a2,e1⟩:=J6 h
  rw [e1] at h
  obtain ⟨a3,e2⟩:=I9 h
  refine ⟨fun p hp=>?_,e0.trans (e1.trans e2)⟩
  rcases List.mem_cons.1 hp with e | hp
  ·subst e; exact ⟨a1,a2⟩
  ·exact a3 p hp
def Sh (n:K4) (v1:V) (h1:Heap) (v':V) (h':Heap):Prop :=
 (ES n v1=true∧v1=v')∨(ES n v1=false ∧ ∃ p p' off len cap ex esz,v1 = .sl p off len cap ex esz∧v' = .sl p' off len cap ex esz∧n.toN≤p.toN∧n.toN≤p'.toN∧II n (AM p h1)=II n (AM p' h') ∧ ∀ o,II n (AM p h1)=some o->Jj n o)
theorem MO {n:K4} {v1 v':V} {h1 h':Heap} {κ:R} (h:(HS n v1 h1 v' h' κ).good):Sh n v1 h1 v' h'∧HS n v1 h1 v' h' κ=κ:=by
 unfold HS at h ⊢
 cases ho:ES n v1 with
 | true =>
  rw [ho] at h
  obtain ⟨a,e⟩:=DK (show R.good (AB v1 v' κ) from h)
  exact ⟨.inl ⟨ho,a⟩,e⟩
 | false =>
  rw [ho] at h
  have h:R.good (CU v1 (.fail "") fun p off len cap ex esz=>CU v' (.fail "") fun p' off' len' cap' ex' esz'=>br (MC p n) (.fail "") (br (MC p' n) (.fail "") (AB (.sl p off len cap ex esz) (.sl p off' len' cap' ex' esz') (Br p h1 fun a=>Br p' h' fun b=>GC n (II n a) (II n b) κ)))):=h
  show Sh n v1 h1 v' h'∧(CU v1 (.fail "") fun p off len cap ex esz=>CU v' (.fail "") fun p' off' len' cap' ex' esz'=>br (MC p n) (.fail "") (br (MC p' n) (.fail "") (AB (.sl p off len cap ex esz) (.sl p off' len' cap' ex' esz') (Br p h1 fun a=>Br p' h' fun b=>GC n (II n a) (II n b) κ))))=κ
  rcases CD h with ⟨_,e1⟩ | ⟨p,off,len,cap,ex,esz,hv,e1⟩
  ·rw [e1] at h; exact h.elim
  rw [e1] at h ⊢
  rcases CD h with ⟨_,e2⟩ | ⟨p',off',len',cap',ex',esz',hv',e2⟩
  ·rw [e2] at h; exact h.elim
  rw [e2] at h ⊢
  obtain ⟨a1,e3⟩:=Fu h
  rw [e3] at h ⊢
  obtain ⟨a2,e4⟩:=Fu h
  rw [e4] at h ⊢
  obtain ⟨a3,e5⟩:=DK h
  rw [e5] at h ⊢
  rw [BC,BC] at h ⊢
  obtain ⟨a4,a5,e6⟩:=J6 h
  rw [e6]
  cases a3
  have n1:n.toN≤p.toN:=by
   rcases Nat.lt_or_ge p.toN n.toN with h | h
   ·rw [FO.2 h] at a1; cases a1
   ·exact h
  have n2:n.toN≤p'.toN:=by
   rcases Nat.lt_or_ge p'.toN n.toN with h | h
   ·rw [FO.2 h] at a2; cases a2
   ·exact h
  exact ⟨.inr ⟨ho,p,p',off,len,cap,ex,esz,hv,hv',n1,n2,a4,a5⟩,rfl⟩
theorem TY (a b:K4) (κ:K4->R):∃ m:K4,TA a b κ=κ m∧a.toN≤m.toN∧b.toN≤m.toN:=by
 unfold TA
 cases h:Nat.ble a.toN b.toN with
 | true=>exact ⟨b,rfl,Ar.1 h,Nat.le_refl _⟩
 | false =>
  have:¬ a.toN≤b.toN:=fun h'=>by rw [Ar.2 h'] at h; cases h
  exact ⟨a,rfl,Nat.le_refl _,by omega⟩
def Ux (n:K4) (v1:V) (h1:Heap) (acc:List K4) (m:K4):R->Prop
 | .rv v h n'=>Sh n v1 h1 v h∧(∀ p∈acc,AM p h1=AM p h ∧ ∀ o,AM p h1=some o->Jj n o)∧n'.toN≤m.toN
 | _=>False
theorem Ix {n:K4} {v1:V} {h1:Heap} {acc:List K4}:∀ {r:R} {mx:K4} {κ:K4->R},(S4 n v1 h1 acc r mx κ).good->∃ m:K4,mx.toN≤m.toN∧r.sat (Ux n v1 h1 acc m)∧S4 n v1 h1 acc r mx κ=κ m
 | .ok _ _ _ _,mx,κ,h=>h.elim
 | .fail _,mx,κ,h=>h.elim
 | .rv v h0 n',mx,κ,h=>by
  have h:R.good (HS n v1 h1 v h0 (FS n h1 h0 acc (TA n' mx κ))):=h
  obtain ⟨a1,e1⟩:=MO h
  rw [e1] at h
  obtain ⟨a2,e2⟩:=I9 h
  rw [e2] at h
  obtain ⟨m,e3,l1,l2⟩:=TY n' mx κ
  exact ⟨m,l2,⟨a1,a2,l1⟩,Eq.trans e1 (e2.trans e3)⟩
 | .both a b,mx,κ,h=>by
  have h:R.good (S4 n v1 h1 acc a mx fun mx=>S4 n v1 h1 acc b mx κ):=h
  obtain ⟨m1,l1,s1,e1⟩:=Ix h
  rw [e1] at h
  obtain ⟨m2,l2,s2,e2⟩:=Ix h
  refine ⟨m2,Nat.le_trans l1 l2,⟨R.sat_mono (fun r hr=>?_) s1,s2⟩,Eq.trans e1 e2⟩
  cases r with
  | rv v h0 n'=>exact ⟨hr.1,hr.2.1,Nat.le_trans hr.2.2 l2⟩
  | ok _ _ _ _=>exact hr
  | fail _=>exact hr
  | both _ _=>exact hr
theorem IZ:∀ {r:R} {κ:V->Heap->R},(OY r κ).good->∃ v h,OY r κ=κ v h
 | .ok _ _ _ _,κ,h=>h.elim
 | .fail _,κ,h=>h.elim
 | .rv v h0 n',κ,h=>⟨v,h0,rfl⟩
 | .both a b,κ,h=>IZ (r:=a) h
theorem RM (o:Ob) (h:Heap) (κ:Heap->R):PS o h κ=κ (FY (BQ o) h):=by
 cases o with
 | c cs sup prev =>
  cases prev with
  | none=>rfl
  | some q=>show BD q h none κ=_; rw [BO,BB]; rfl
 | m _ _ _=>rfl
 | it _ _ _ _=>rfl
 | it0=>rfl
 | lp _ _=>rfl
structure PutOK (h h1:Heap) (acc:List K4) (hf:Heap):Prop where
 put:∀ q o,AM q hf=some o->(q∈acc∧AM q h1=some o)∨(q ∉ acc∧AM q h=some o ∧ ∀ p∈acc,∀ op,AM p h=some op->BQ op≠some q)
theorem Kc {h h1:Heap}:∀ {acc:List K4} {κ:Heap->R},(O9 h h1 acc κ).good->∃ hf,PutOK h h1 acc hf∧O9 h h1 acc κ=κ hf
 | [],κ,_=>⟨h,⟨fun q o hq=>.inr ⟨by simp,hq,fun p hp=>by simp at hp⟩⟩,rfl⟩
 | p::acc,κ,hg=>by
  have hg:R.good (O9 h h1 acc fun hf=>Br p h fun o=>@Option.rec Ob (fun _=>R) (.fail "") (fun o=>PS o hf fun hf=>Br p h1 fun o1=>BD p hf o1 κ) o):=hg
  obtain ⟨hf,ok,e1⟩:=Kc hg
  rw [e1] at hg
  have e0:O9 h h1 (p::acc) κ=_:=e1
  rw [e0]
  rw [BC] at hg ⊢
  cases hp:AM p h with
  | none=>rw [hp] at hg; exact hg.elim
  | some op =>
   show ∃ hf',PutOK h h1 (p::acc) hf'∧(PS op hf fun hf=>Br p h1 fun o1=>BD p hf o1 κ)=κ hf'
   rw [RM,BC,BO,BB]
   refine ⟨_,⟨fun q o hq=>?_⟩,rfl⟩
   rcases By hq with ⟨rfl,e⟩ | ⟨hne,hq⟩
   ·exact .inl ⟨List.mem_cons_self ..,e⟩
   ·obtain ⟨k1,hq⟩:=CY hq
    rcases ok.put q o hq with ⟨a,b⟩ | ⟨a,b,c⟩
    ·exact .inl ⟨List.mem_cons_of_mem _ a,b⟩
    ·refine .inr ⟨fun hm=>?_,b,fun p' hp' op' hop'=>?_⟩
     ·rcases List.mem_cons.1 hm with e | hm
      ·exact hne e.symm
      ·exact a hm
     ·rcases List.mem_cons.1 hp' with e | hp'
      ·subst e; rw [hp] at hop'; cases hop'; exact k1
      ·exact c p' hp' op' hop'
section
variable {h hs h1 h' hf:Heap} {acc:List K4} {n n' m:K4} {v1 v:V} {φ φ':B9} {w w':World}
theorem Fj (sub:Sub h hs acc) (put:PutOK h h1 acc hf) (g:Gam ρ B h n φ w) {q:K4} {o:Ob} (hq:q ∉ acc) (ho:AM q hf=some o) {b s tot:Nat} (hφ:φ q=some (b,s,tot)) {p:K4} (hp:p∈acc) {s' tot':Nat} (hφp:φ p=some (b,s',tot')):False:=by
 obtain ⟨op',hop⟩:=sub.has p hp
 obtain ⟨op,k1,_,k2,_⟩:=sub.sub p op' hop
 rcases put.put q o ho with ⟨a,_⟩ | ⟨_,a,c⟩
 ·exact hq a
 ·have hne:p≠q:=fun e=>hq (e ▸ hp)
  rcases g.sep p q op o b s' tot' s tot hne k1 a hφp hφ with e | e
  ·exact c p hp op k1 e
  ·have:=g.sup q p o op b s tot s' tot' a e k1 hφ hφp
   cases op with
   | c cs sup prev =>
    have this:sup=true:=this
    subst this
    cases k2
   | m _ _ _=>cases this
   | it _ _ _ _=>cases this
   | it0=>cases this
   | lp _ _=>cases this
theorem RG (sub:Sub h hs acc) (put:PutOK h h1 acc hf) (g:Gam ρ B h n φ w) (f1:Fr hs h' φ φ' n n' w w') {q:K4} {o:Ob} (hq:q ∉ acc) (ho:AM q hf=some o) {b s tot:Nat} (hφ:φ q=some (b,s,tot)):w'.heap[b]? = w.heap[b]?:=by
 refine f1.old b (g.blk q b s tot hφ).2 fun p s' tot' hp=>?_
 cases hx:AM p hs with
 | none=>rfl
 | some o'=>exact (Fj sub put g hq ho hφ (sub.mem hx) hp).elim
theorem S1 (sub:Sub h hs acc) (put:PutOK h h1 acc hf) (g:Gam ρ B h n φ w) (f1:Fr hs h' φ φ' n n' w w') (g1:Gam ρ B h' n' φ' w')
  (hacc:∀ p∈acc,AM p h1=AM p h' ∧ ∀ o,AM p h1=some o->Jj n o) (hm:n.toN≤m.toN):Gam ρ B hf m φ w'∧Fr h hf φ φ n m w w':=by
 have back:∀ p x,p.toN<n.toN->φ' p=some x->φ p=some x:=fun p x hp hx=>by
  rcases f1.new p x hx with h | ⟨h,_⟩
  ·exact h
  ·omega
 have inacc:∀ q o,q∈acc->AM q hf=some o->AM q h'=some o∧Jj n o:=fun q o hq ho=>by
  rcases put.put q o ho with ⟨_,a⟩ | ⟨a,_⟩
  ·exact ⟨(hacc q hq).1 ▸ a,(hacc q hq).2 o a⟩
  ·exact absurd hq a
 have outacc:∀ q o,q ∉ acc->AM q hf=some o->AM q h=some o:=fun q o hq ho=>by
  rcases put.put q o ho with ⟨a,_⟩ | ⟨_,a,_⟩
  ·exact absurd a hq
  ·exact a
 refine ⟨⟨Nat.le_trans g.base f1.size,fun p x hx=>Nat.lt_of_lt_of_le (g.dom p x hx) hm,fun p b s tot hx=>⟨(g.blk p b s tot hx).1,Nat.lt_of_lt_of_le (g.blk p b s tot hx).2 f1.size⟩,fun q o b s tot ho hx=>?_,fun p q o o' b s tot s' tot' hne ho ho' hx hy=>?_,fun p q o o' b s tot s' tot' ho hpr ho' hx hy=>?_,g1.glob⟩,
  ⟨B9.le_refl φ,fun _ _ h=>.inl h,hm,f1.os,f1.tape,f1.out,f1.size,fun b hb hn=>f1.old b hb fun p s tot hp=>?_,fun _ _ _ _ h=>.inl h,fun p hp hn=>?_⟩⟩
 ·by_cases hq:q∈acc
  ·obtain ⟨a,c⟩:=inacc q o hq ho
   exact JS back c (g1.obj q o b s tot a (f1.ext _ _ hx))
  ·exact C9 (RG sub put g f1 hq ho hx) (g.obj q o b s tot (outacc q o hq ho) hx)
 ·by_cases hp:p∈acc
  ·by_cases hq:q∈acc
   ·exact g1.sep p q o o' b s tot s' tot' hne (inacc p o hp ho).1 (inacc q o' hq ho').1 (f1.ext _ _ hx) (f1.ext _ _ hy)
   ·exact (Fj sub put g hq ho' hy hp hx).elim
  ·by_cases hq:q∈acc
   ·exact (Fj sub put g hp ho hx hq hy).elim
   ·exact g.sep p q o o' b s tot s' tot' hne (outacc p o hp ho) (outacc q o' hq ho') hx hy
 ·by_cases hp:p∈acc
  ·rw [(inacc p o hp ho).2.prev] at hpr; cases hpr
  ·by_cases hq:q∈acc
   ·exact (Fj sub put g hp ho hx hq hy).elim
   ·exact g.sup p q o o' b s tot s' tot' (outacc p o hp ho) hpr (outacc q o' hq ho') hx hy
 ·cases hx:AM p hs with
  | none=>rfl
  | some o'=>have:=hn p s tot hp; obtain ⟨o0,e0⟩:=sub.in_h hx; rw [e0] at this; cases this
 ·cases hx:AM p hf with
  | none=>rfl
  | some o =>
   exfalso
   by_cases hq:p∈acc
   ·obtain ⟨o',ho'⟩:=sub.has p hq
    obtain ⟨o0,e0⟩:=sub.in_h ho'
    rw [e0] at hn; cases hn
   ·rw [outacc p o hq hx] at hn; cases hn
theorem UY (sub:Sub h hs acc) (put:PutOK h h1 acc hf) (g:Gam ρ B h n φ w) (f1:Fr hs h' φ φ' n n' w w') (g1:Gam ρ B h' n' φ' w') {x:Value} (r1:AL ρ φ' v x)
  (way:Ux n v1 h1 acc m (.rv v h' n')) (hm:n.toN≤m.toN) {vf:V} {hff:Heap} {nf:K4} (hres:Vn n v1 h1 hf m = .rv vf hff nf) :
  ∃ φ'',Fr h hff φ φ'' n nf w w'∧Gam ρ B hff nf φ'' w'∧AL ρ φ'' vf x:=by
 obtain ⟨res,hacc,hn'⟩:=way
 obtain ⟨gb,fb⟩:=S1 sub put g f1 g1 hacc hm
 have back:∀ p x,p.toN<n.toN->φ' p=some x->φ p=some x:=fun p x hp hx=>by
  rcases f1.new p x hx with h | ⟨h,_⟩
  ·exact h
  ·omega
 unfold Vn at hres
 rcases res with ⟨ho,e⟩ | ⟨ho,p,p',off,len,cap,ex,esz,e1,e2,hp,hp',heq,hold⟩
 ·subst e
  rw [ho] at hres
  have hres:R.rv v1 hf m=R.rv vf hff nf:=hres
  cases hres
  exact ⟨φ,fb,gb,Er back ho r1⟩
 ·rw [ho] at hres
  subst e1 e2
  have hres:(Br p h1 fun o=>@Option.rec Ob (fun _=>R) (.fail "") (fun ob=>BD m hf (some ob) fun hf=>m.nx fun m'=>.rv (.sl m off len cap ex esz) hf m') (II n o)) = .rv vf hff nf:=hres
  rw [BC] at hres
  cases hob:II n (AM p h1) with
  | none=>rw [hob] at hres; cases hres
  | some ob =>
   rw [hob] at hres
   have hres:(BD m hf (some ob) fun hf=>m.nx fun m'=>.rv (.sl m off len cap ex esz) hf m') = .rv vf hff nf:=hres
   rw [BO,BB] at hres
   rcases K4.nx_eq m (fun m'=>.rv (.sl m off len cap ex esz) (B6 m hf (some ob)) m') with ⟨why,e⟩ | ⟨m',hm',e⟩
   ·rw [e] at hres; cases hres
   rw [e] at hres
   cases hres
   have hOld:=hold ob hob
   obtain ⟨obr,hob',hpv,hcl⟩:=QE (heq ▸ hob)
   obtain ⟨b',s',tot',o,cap',hφ',gx,c1,c2,c3,c4⟩:=CG r1
   have hmn:φ m=none:=by
    cases hx:φ m with
    | none=>rfl
    | some x=>have:=g.dom m x hx; omega
   have hoblk:=g1.blk p' b' s' tot' hφ'
   -- no object that was there lies in that block
   have apart:∀ q oq,AM q hf=some oq->∀ s tot,φ q=some (b',s,tot)->False:=fun q oq hq s tot hx=>by
    have hqn:=g.dom q _ hx
    have hne:p'≠q:=fun e=>by rw [e] at hp'; omega
    by_cases hqa:q∈acc
    ·rcases put.put q oq hq with ⟨_,a⟩ | ⟨a,_⟩
     ·have a':AM q h'=some oq:=(hacc q hqa).1 ▸ a
      rcases g1.sep p' q obr oq b' s' tot' s tot hne hob' a' hφ' (f1.ext _ _ hx) with e | e
      ·have:=hpv hOld.prev q e; omega
      ·rw [((hacc q hqa).2 oq a).prev] at e; cases e
     ·exact a hqa
    ·rcases f1.fresh p' b' s' tot' hφ' with h | h | ⟨r,sr,tr,hr,hne'⟩
     ·have:=g.dom p' _ h; omega
     ·have:=(g.blk q b' s tot hx).2; omega
     ·cases hx':AM r hs with
      | none=>exact hne' hx'
      | some o'=>exact Fj sub put g hqa hq hx (sub.mem hx') hr
   refine ⟨E7 φ m (b',s',tot'),⟨B9.le_trans fb.ext (CK hmn),fun q y hy=>?_,by omega,fb.os,fb.tape,fb.out,fb.size,fb.old,fun q b s t hx=>?_,fun q hq hn=>?_⟩,⟨gb.base,fun q y hy=>?_,fun q b s t hy=>?_,fun q oq b s t hq hy=>?_,fun q r oq or b s t s2 t2 hne hq hr hx hy=>?_,fun q r oq or b s t s2 t2 hq hpr hr hx hy=>?_,gb.glob⟩,?_⟩
   ·rcases AY hy with ⟨rfl,_⟩ | ⟨_,hy⟩
    ·exact .inr ⟨hm,by omega⟩
    ·exact .inl hy
   ·rcases AY hx with ⟨rfl,e⟩ | ⟨_,hx⟩
    ·cases e
     rcases f1.fresh p' b' s' tot' hφ' with h | h | ⟨r,sr,tr,hr,hne'⟩
     ·have:=g.dom p' _ h; omega
     ·exact .inr (.inl h)
     ·refine .inr (.inr ⟨r,sr,tr,hr,?_⟩)
      cases hx':AM r hs with
      | none=>exact absurd hx' hne'
      | some o'=>obtain ⟨o0,e0⟩:=sub.in_h hx'; rw [e0]; simp
    ·exact .inl hx
   ·have hne:m≠q:=fun e=>hq (e ▸ hmn)
    rw [Ay _ _ hne]
    exact fb.dm q hq hn
   ·rcases AY hy with ⟨rfl,_⟩ | ⟨_,hy⟩
    ·omega
    ·have:=gb.dom q y hy; omega
   ·rcases AY hy with ⟨rfl,e⟩ | ⟨_,hy⟩
    ·cases e; exact hoblk
    ·exact gb.blk q b s t hy
   ·rcases AY hy with ⟨rfl,e⟩ | ⟨hne,hy⟩
    ·cases e
     rw [AG] at hq; cases hq
     refine JS (φ1:=φ') (fun q y hq hy=>?_) hOld (hcl (g1.obj p' obr _ _ _ hob' hφ'))
     rw [GV fun e=>by subst e; omega]
     exact back q y hq hy
    ·rw [Ay _ _ hne] at hq
     exact DT (CK hmn) (gb.obj q oq b s t hq hy)
   ·rcases AY hx with ⟨rfl,e⟩ | ⟨hq',hx⟩
    ·cases e
     rcases AY hy with ⟨e,_⟩ | ⟨hr',hy⟩
     ·exact absurd e hne
     ·rw [Ay _ _ hr'] at hr
      exact (apart r or hr s2 t2 hy).elim
    ·rw [Ay _ _ hq'] at hq
     rcases AY hy with ⟨rfl,e⟩ | ⟨hr',hy⟩
     ·cases e
      exact (apart q oq hq s t hx).elim
     ·rw [Ay _ _ hr'] at hr
      exact gb.sep q r oq or b s t s2 t2 hne hq hr hx hy
   ·rcases AY hx with ⟨rfl,e⟩ | ⟨hq',hx⟩
    ·rw [AG] at hq; cases hq
     rw [hOld.prev] at hpr; cases hpr
    ·rw [Ay _ _ hq'] at hq
     rcases AY hy with ⟨rfl,e⟩ | ⟨hr',hy⟩
     ·cases e
      exact (apart q oq hq s t hx).elim
     ·rw [Ay _ _ hr'] at hr
      exact gb.sup q r oq or b s t s2 t2 hq hpr hr hx hy
   ·rw [gx]
    simp only [AL]
    exact ⟨b',s',tot',o,cap',BT _ _ _,rfl,c1,c2,c3,c4⟩
end
theorem Vp {f:FuncId} {run:Heap->R} {k:Nat} {args:List V} {h:Heap} {n:K4} {v:V} {h1:Heap} {n1:K4} (hr:Xu k run args h n = .rv v h1 n1) {φ:B9} {w:World} {xs:Array Value} (g:Gam ρ B h n φ w) (hxs:Bs ρ φ args xs.toList)
  (H:∀ (hs:Heap) (Φ:R->Prop),(run hs).sat Φ->Gam ρ B hs n φ w->Jh P f xs w fun x w'=>∃ v h1 n1 φ',Φ (.rv v h1 n1)∧Fr hs h1 φ φ' n n1 w w'∧Gam ρ B h1 n1 φ' w'∧AL ρ φ' v x) :
  Jh P f xs w fun x w'=>∃ φ',Fr h h1 φ φ' n n1 w w'∧Gam ρ B h1 n1 φ' w'∧AL ρ φ' v x:=by
 unfold Xu at hr
 obtain ⟨hs,acc,sub,e1⟩:=Eo k (todo:=SS args []) (κ:=fun hs acc=>Vl n h acc (run hs)) (Sub.nil (h:=h))
 rw [e1] at hr
 unfold Vl at hr
 obtain ⟨v1,hh1,e2⟩:=IZ (by rw [hr]; trivial)
 rw [e2] at hr
 obtain ⟨m,hm,sat,e3⟩:=Ix (by rw [hr]; trivial)
 rw [e3] at hr
 obtain ⟨hf,put,e4⟩:=Kc (by rw [hr]; trivial)
 rw [e4] at hr
 have gs:Gam ρ B hs n φ w:=by
  refine ⟨g.base,g.dom,g.blk,fun p o b s tot hp hx=>?_,fun p q o o' b s tot s' tot' hne hp hq hx hy=>?_,fun p q o o' b s tot s' tot' hp hpr hq hx hy=>?_,g.glob⟩
  ·obtain ⟨o0,e0,rfl,_⟩:=sub.sub p o hp
   exact PX (g.obj p o0 b s tot e0 hx)
  ·exfalso
   obtain ⟨o0,e0,_,g0,_⟩:=sub.sub p o hp
   obtain ⟨o1,e1,_,g1,_⟩:=sub.sub q o' hq
   have no:∀ (ob:Ob),GH ob=true->Ie ob=true->False:=fun ob h1 h2=>by
    cases ob with
    | c cs sup prev =>
     cases sup with
     | true=>cases h1
     | false=>cases h2
    | _=>cases h2
   rcases g.sep p q o0 o1 b s tot s' tot' hne e0 e1 hx hy with h | h
   ·exact no o1 g1 (g.sup p q o0 o1 b s tot s' tot' e0 h e1 hx hy)
   ·exact no o0 g0 (g.sup q p o1 o0 b s' tot' s tot e1 h e0 hy hx)
  ·obtain ⟨o0,e0,rfl,_⟩:=sub.sub p o hp
   rw [GP] at hpr; cases hpr
 intro o a K Q hK
 refine H hs _ sat gs o a K Q fun x w' ⟨v',h',n',φ',way,f1,g1,r1⟩=>hK x w' ?_
 exact UY sub put g f1 g1 r1 way hm hr
end
end Go.Ev

namespace Go.Ev
set_option linter.unusedVariables false
open Go.RowKit
abbrev rdK (pb px:K2) (al bl:List AOp) (cf:FL) (b x:V) (h:Heap) (n:K4):R :=
 CM [] cf al [(px,x),(pb,b)] EB h n fun env t h n=>CM [] cf bl env t h n fun _ _ h n=>.rv (.bool true) h n
abbrev Rd:=FL->V->V->Heap->K4->R
def N0 (l:List Oper):Bool:=l.all fun o=>match o.op with | .defer _=>false | _=>true
theorem Ja {l:List Oper} (h:N0 l=true):∀ o∈l,∀ c,o.op ≠ .defer c:=fun o ho c e=>by
 have:=List.all_eq_true.1 h o ho
 rw [e] at this; cases this
def PQ:Code->Option (Array Oper)
 | .region _ ops false=>some ops
 | _=>none
def Sn:Code->Option (Array Oper)
 | .block _ c=>PQ c
 | _=>none
def Sv (P:Program) (A:ApC):Option Rd :=
 match PQ A.asg,Sn A.bod,K2.ofN A.par,K2.ofN A.box with
 | some oa,some ob,some px,some pb=>match Ga P A.ntm oa oa.toList,Ga P A.ntm ob ob.toList with
  | some al,some bl=>if G0 [] al [px,pb]&&(G0 [] bl (CE al [px,pb])&&(N0 oa.toList&&(N0 ob.toList&&(Nat.blt A.par A.ntm&&(Nat.blt A.box A.ntm && !(A.par == A.box)))))) then some (rdK pb px al bl) else none
  | _,_=>none
 | _,_,_,_=>none
theorem JM {c:Code} {ops:Array Oper} (h:PQ c=some ops):∃ i,c = .region i ops false:=by
 unfold PQ at h
 split at h
 ·cases h; exact ⟨_,rfl⟩
 ·cases h
theorem Pu {c:Code} {ops:Array Oper} (h:Sn c=some ops):∃ i j,c = .block i (.region j ops false):=by
 unfold Sn at h
 split at h
 ·obtain ⟨j,rfl⟩:=JM h; exact ⟨_,j,rfl⟩
 ·cases h
def L6 (P:Program) (f:FuncId):Option ApC :=
 match P.funcs[f]? with
 | some fn=>match fn.body with
  | some (.seq (.region _ r0 false) (.seq (.seq (.region _ r1 false) (.block _ (.rangeFunc (.tmp s6) ps asg bod))) (.seq (.region _ r4 false) .ret))) =>
   match r0.toList,r1.toList,r4.toList,ps.toList,fn.results.toList with
   | [o1,o2],[o3],[o4,o5],[par],[.tmp s4]=>match o1.op,o2.op,o3.op,o4.op,o5.op with
    | .box _ (.tmp s0),.assign (.const c2),.move (.tmp s1),.load tL (.tmp s2),.assign (.tmp s12) =>
     if (fn.name == "runtime.NumGoroutine")=false∧fn.ntmps=13∧s6=6∧s4=4∧s0=0∧s1=1∧s2=2∧s12=12∧o1.dst=some 2∧o2.dst=some 4∧o3.dst=some 6∧o4.dst=some 12∧o5.dst=some 4 ∧
      o1.guard=none∧o2.guard=none∧o3.guard=none∧o4.guard=none∧o5.guard=none∧Ki P tL=some false then some ⟨asg,bod,par,2,13⟩ else none
    | _,_,_,_,_=>none
   | _,_,_,_,_=>none
  | _=>none
 | none=>none
def G9 (l:List V) (κ:V->List V->R):R:=@List.rec V (fun _=>R) (.fail "") (fun x xs _=>κ x xs) l
def OC (l:List V) (κ:R):R:=@List.rec V (fun _=>R) κ (C2 "") l
def P2 (v:V) (κ:R):R :=
 @V.rec (fun _=>R) (fun _=>Unit) (AV "") (Bc "") (AV "") (Dq "") (AV "") (AV "")
  (fun u=>@Nl.rec (fun _=>R) (.fail "") κ (.fail "") (.fail "") (.fail "") u) (Bc "") (C2 "") (AV "") (Bc "") () (fun _ _ _ _=>()) v
def RU (v:V) (κ:Nat->List V->R):R :=
 @V.rec (fun _=>R) (fun _=>Unit) (AV "") (Bc "") (AV "") (Dq "") (AV "") (AV "") (Bc "") (Bc "")
  (fun f caps _=>κ f caps) (AV "") (Bc "") () (fun _ _ _ _=>()) v
def XD (o:Ch) (κ:R):R:=@Option.rec Ob (fun _=>R) (.fail "") (fun o=>@Ob.rec (fun _=>R) (C2 "") (C2 "") (FF "") (.fail "") (fun _ _=>κ) o) o
def Lm (g:Nat) (l:List Nat) (κ:R):R:=@List.rec Nat (fun _=>R) (.fail "") (fun x _ ih=>br (Nat.beq x g) κ ih) l
def UQ (f:Nat) (its:List Nat) (cf:FL) (args:List V) (h:Heap) (n:K4):R :=
 G9 args fun v l=>G9 l fun s l=>OC l (P2 v (RU s fun g caps=>Lm g its
  (BD n h (some (.c (.l [.nil .sl]) false none)) fun h=>n.nx fun n1=>BD n1 h (some (.lp f n)) fun h=>n1.nx fun n2 =>
   Cw (cf (BA g) (.oth (.yl n1)::caps) h n2) fun _ h m =>
    Br n1 h fun o=>XD o (PE n h fun cs _ _=>FG cs 0 fun sv=>BD n h none fun h=>BD n1 h none fun h=>.rv sv h m))))
section
variable {P:Program} {ρ:Env} {B:Nat} {h:Heap} {n:K4}
def Uj (φ:B9) (h:Heap) (l:Nat):Prop:=∀ q s tot,φ q=some (l,s,tot)->AM q h=none
theorem Uj.step {φ φ1:B9} {h1:Heap} {n1:K4} {w w1:World} {l:Nat} (u:Uj φ h l) (hl:l<w.heap.size) (f:Fr h h1 φ φ1 n n1 w w1):Uj φ1 h1 l:=fun q s tot hq=>by
 rcases f.fresh q l s tot hq with e | e | ⟨r,s',tot',hr,hne⟩
 ·exact f.dm q (by rw [e]; simp) (u q s tot e)
 ·omega
 ·exact absurd (u r s' tot' hr) hne
theorem Gam.poke {φ:B9} {w:World} (g:Gam ρ B h n φ w) {l:Nat} (u:Uj φ h l) (O:Obj) (hno:∀ c e fr,w.heap[l]? ≠ some (.cells c e fr)):Gam ρ B h n φ (w.putObj l O) where
 glob:=fun k c e fr hk=>⟨(g.glob k c e fr hk).1,by rw [World.putObj_heap_other (fun e'=>by subst e'; exact hno _ _ _ (g.glob _ c e fr hk).2)]; exact (g.glob k c e fr hk).2⟩
 base:=by rw [World.putObj_size]; exact g.base
 dom:=g.dom
 blk:=fun p b s t hp=>by rw [World.putObj_size]; exact g.blk p b s t hp
 obj:=fun p o b s t hp hφ=>by
  refine C9 (World.putObj_heap_other fun e=>?_) (g.obj p o b s t hp hφ)
  subst e
  rw [u p s t hφ] at hp; cases hp
 sep:=g.sep
 sup:=g.sup
theorem Fr.around {h1:Heap} {n1:K4} {φ φ1:B9} {w W:World} {l:Nat} {O O0:Obj} (hl:w.heap[l]? = some O0) (f:Fr h h1 φ φ1 n n1 (w.putObj l O) W):Fr h h1 φ φ1 n n1 w (W.putObj l O0):=by
 have hlt:l<w.heap.size:=by
  rcases Nat.lt_or_ge l w.heap.size with e | e
  ·exact e
  ·rw [Array.getElem?_eq_none e] at hl; cases hl
 have hs:=f.size
 rw [World.putObj_size] at hs
 refine ⟨f.ext,f.new,f.nn,f.os,f.tape,f.out,by rw [World.putObj_size]; exact hs,fun b hb hn=>?_,fun q b s t hq=>?_,f.dm⟩
 ·by_cases e:b=l
  ·subst e; rw [World.putObj_heap_same (by omega),hl]
  ·rw [World.putObj_heap_other e,f.old b (by rw [World.putObj_size]; exact hb) hn,World.putObj_heap_other e]
 ·have:=f.fresh q b s t hq
  rwa [World.putObj_size] at this
theorem Fr.poke {h1:Heap} {n1:K4} {φ φ1:B9} {w W:World} {l:Nat} (O:Obj) (hl:w.heap.size≤l) (f:Fr h h1 φ φ1 n n1 w W):Fr h h1 φ φ1 n n1 w (W.putObj l O) :=
 ⟨f.ext,f.new,f.nn,f.os,f.tape,f.out,by rw [World.putObj_size]; exact f.size,fun b hb hn=>by rw [World.putObj_heap_other (by omega)]; exact f.old b hb hn,f.fresh,f.dm⟩
def TD:Regs:=Regs.all (VP.all (.oth .any))
theorem QZ (p:K2):Bg p TD = .oth .any:=by simp only [Bg,TD,Regs.sel_all,VP.sel_all]
theorem VJ (hρ:Bo ρ) {cf:CF} {cf2:FL} (hcf:DR P ρ B cf) (h2:∀ f,cf2 (BA f)=cf f) {A:ApC} {rd:Rd} (hrd:Sv P A=some rd) {fn:FuncId} {box:K4} {x:V} {Φ:R->Prop}
  (hs:(rd cf2 (.ptr box 0) x h n).sat Φ) {φ:B9} {w:World} {tmps:Array Value} {X:Value} {l D:Nat} (g:Gam ρ B h n φ w) (hl:w.heap[l]? = some (.loop (F2 A fn tmps D))) (u:Uj φ h l)
  (hsz:tmps.size=A.ntm) (hbox:AL ρ φ (.ptr box 0) (tmps.getD A.box undef)) (hX:AL ρ φ x X) :
  RoundIn Fence.wide 0 P l fn (tmps.setIfInBounds A.par X) A.asg A.bod w fun e w'=>e = .returned (.bool true) ∧
   ∃ v h1 n1 φ',v = .bool true∧Φ (.rv v h1 n1)∧Fr h h1 φ φ' n n1 w w'∧Gam ρ B h1 n1 φ' w':=by
 unfold Sv at hrd
 split at hrd
 ·rename_i oa ob px pb ha hb hpx hpb
  split at hrd
  ·rename_i al bl hal hbl
   split at hrd
   ·rename_i hok
    cases hrd
    simp only [Bool.and_eq_true,Nat.blt_eq] at hok
    obtain ⟨ok1,ok2,nd1,nd2,lt1,lt2,hne⟩:=hok
    have hne:A.par≠A.box:=by simpa using hne
    obtain ⟨i,hasg⟩:=JM ha
    obtain ⟨j,k,hbod⟩:=Pu hb
    have hlt:l<w.heap.size:=by
     rcases Nat.lt_or_ge l w.heap.size with e | e
     ·exact e
     ·rw [Array.getElem?_eq_none e] at hl; cases hl
    have hpp:px≠pb:=fun e=>hne (K2.ofN_inj hpx (e ▸ hpb))
    have ri:RI [] [px,pb] [(px,x),(pb,.ptr box 0)] (DE px (DE pb TD (.ptr box 0)) x) EB:=by
     refine ⟨fun h=>(by cases h),fun p v hp=>?_,fun p hp=>?_,fun p s h=>(by cases h)⟩
     ·by_cases e:px=p
      ·subst e; rw [Dg] at hp; cases hp; exact Bd _ _ _
      ·rw [Fv e] at hp
       rw [Bt _ _ e]
       by_cases e':pb=p
       ·subst e'; rw [Dg] at hp; cases hp; exact Bd _ _ _
       ·rw [Fv e'] at hp; simp [F5] at hp
     ·by_cases e:px=p
      ·subst e; exact ⟨x,Dg⟩
      ·rw [Fv e]
       by_cases e':pb=p
       ·subst e'; exact ⟨_,Dg⟩
       ·simp at hp; rcases hp with hp | hp
        ·exact absurd hp.symm e
        ·exact absurd hp.symm e'
    have hT:TR ρ A.ntm φ (DE px (DE pb TD (.ptr box 0)) x) { tmps:=tmps.setIfInBounds A.par X,defers:=[] }:={
     size:=by simp [hsz]
     defers:=rfl
     at_:=fun s p hs hp=>by
      show AL ρ φ _ ((tmps.setIfInBounds A.par X).getD s undef)
      by_cases e:A.par=s
      ·subst e
       rw [hpx] at hp; cases hp
       rw [Bd,Array.getD_eq_getD_getElem?,Array.getElem?_setIfInBounds_self_of_lt (by omega)]
       exact hX
      ·rw [Bt _ _ (fun e'=>e (K2.ofN_inj hpx (by rw [e']; exact hp))),Array.getD_eq_getD_getElem?,Array.getElem?_setIfInBounds_ne e,←Array.getD_eq_getD_getElem?]
       by_cases e2:A.box=s
       ·subst e2
        rw [hpb] at hp; cases hp
        rw [Bd]; exact hbox
       ·rw [Bt _ _ (fun e'=>e2 (K2.ofN_inj hpb (by rw [e']; exact hp))),QZ]
        simp only [AL] }
    have hs:(CM [] cf2 al [(px,x),(pb,.ptr box 0)] EB h n fun env t h n=>CM [] cf2 bl env t h n fun _ _ h n=>.rv (.bool true) h n).sat Φ:=hs
    obtain ⟨env1,t1,t1',h1,n1,e1,ri1,H1⟩:=Dl (B:=B) (ops:=oa) hρ hcf h2 hal ok1 ri (R.sat_good hs)
    rw [e1] at hs
    obtain ⟨env2,t2,t2',h2',n2,e2,ri2,H2⟩:=Dl (B:=B) (ops:=ob) hρ hcf h2 hbl ok2 ri1 (R.sat_good hs)
    rw [e2] at hs
    have hs:Φ (.rv (.bool true) h2' n2):=hs
    refine roundIn_of_wpIn trivial ?_
    rw [hasg,hbod]
    have c1:=DM (l:=some l) (n:=0) (r:=[]) (.inr (Ja nd1)) (H1 φ _ w hT g (Exit.then (fun a₁ w₁=>∃ w₂,(Instr.beginRound l).run P w₁ = .ok () w₂∧(Code.block j (.region k ob false)).wpIn (Fence.wide.inRound l) 0 P (roundPost P l (fun e w'=>e = .returned (.bool true) ∧
      ∃ v h1 n1 φ',v = .bool true∧Φ (.rv v h1 n1)∧Fr h h1 φ φ' n n1 w w'∧Gam ρ B h1 n1 φ' w')) a₁ w₂) (fun _ _ _=>False)) (wpListIn (Lo (some l)) 0 P oa _ []) fun φ1 a1 w1 f1 g1 T1=>wpListIn_nil (F:=Lo (some l)) ?_)
    ·rw [List.append_nil] at c1
     exact wpIn_region_list c1
    ·have u1:=u.step hlt f1
     have hl1:w1.heap[l]? = some (.loop (F2 A fn tmps D)):=(f1.old l hlt u).trans hl
     refine ⟨_,run_beginRound hl1 rfl,wpIn_block (wpIn_region_list ?_)⟩
     have g1':=g1.poke u1 (.loop { F2 A fn tmps D with state:=.busy }) (fun c e fr h=>by rw [hl1] at h; cases h)
     have c2:=DM (l:=some l) (n:=0) (r:=[]) (.inr (Ja nd2)) (H2 φ1 a1 _ T1 g1' (Exit.inBlock j (roundPost P l (fun e w'=>e = .returned (.bool true) ∧
      ∃ v h1 n1 φ',v = .bool true∧Φ (.rv v h1 n1)∧Fr h h1 φ φ' n n1 w w'∧Gam ρ B h1 n1 φ' w'))) (wpListIn (Lo (some l)) 0 P ob _ []) fun φ2 a2 w2 f2 g2 T2=>wpListIn_nil (F:=Lo (some l)) ?_)
     ·rw [List.append_nil] at c2; exact c2
     ·have hlt1:l<(w1.putObj l (.loop { F2 A fn tmps D with state:=.busy })).heap.size:=by rw [World.putObj_size]; have:=f1.size; omega
      have u2:=u1.step hlt1 f2
      have hl2:w2.heap[l]? = some (.loop { F2 A fn tmps D with state:=.busy }):=(f2.old l hlt1 u1).trans (World.putObj_heap_same (by rwa [World.putObj_size] at hlt1))
      exact ⟨_,_,run_endRound none hl2,rfl,_,h2',n2,φ2,rfl,hs,Fr.trans f1 (f2.around hl1),g2.poke u2 _ (fun c e fr h=>by rw [hl2] at h; cases h)⟩
   ·cases hrd
  ·cases hrd
 ·cases hrd
def Jr (P:Program) (g:FuncId):Prop:=∃ fn c,P.funcs[g]? = some fn∧fn.body=some c∧(fn.name == "runtime.NumGoroutine")=false
theorem Eu {l:List V} {κ:V->List V->R} (hg:(G9 l κ).good):∃ x xs,l=x::xs∧G9 l κ=κ x xs:=by
 cases l with
 | nil=>exact hg.elim
 | cons x xs=>exact ⟨x,xs,rfl,rfl⟩
theorem I5 {l:List V} {κ:R} (hg:(OC l κ).good):l=[]∧OC l κ=κ:=by
 cases l with
 | nil=>exact ⟨rfl,rfl⟩
 | cons x xs=>exact hg.elim
theorem NF {v:V} {κ:R} (hg:(P2 v κ).good):v = .nil .sl∧P2 v κ=κ:=by
 cases v with
 | nil u=>cases u with
  | sl=>exact ⟨rfl,rfl⟩
  | _=>exact hg.elim
 | _=>exact hg.elim
theorem OK {v:V} {κ:Nat->List V->R} (hg:(RU v κ).good):∃ f l,v = .fn f l∧RU v κ=κ f l:=by
 cases v with
 | fn f l=>exact ⟨f,l,rfl,rfl⟩
 | _=>exact hg.elim
theorem RZ {o:Ch} {κ:R} (hg:(XD o κ).good):(∃ f b,o=some (.lp f b))∧XD o κ=κ:=by
 cases o with
 | none=>exact hg.elim
 | some ob=>cases ob with
  | lp f b=>exact ⟨⟨f,b,rfl⟩,rfl⟩
  | _=>exact hg.elim
theorem Kw {g:Nat}:∀ {l:List Nat} {κ:R},(Lm g l κ).good->g∈l∧Lm g l κ=κ
 | [],κ,hg=>hg.elim
 | x::l,κ,hg=>by
  have hg:R.good (br (Nat.beq x g) κ (Lm g l κ)):=hg
  show _∧br (Nat.beq x g) κ (Lm g l κ)=κ
  cases hb:Nat.beq x g with
  | true=>exact ⟨by rw [Nat.eq_of_beq_eq_true hb]; exact List.mem_cons_self ..,rfl⟩
  | false =>
   rw [hb] at hg
   obtain ⟨h1,h2⟩:=Kw (show R.good (Lm g l κ) from hg)
   exact ⟨List.mem_cons_of_mem _ h1,h2⟩
theorem BK {o:Oper} {a:Act} {w w':World} {x:Value} {K:Act->World->Prop} {Q:Exit->Act->World->Prop} (hr:(execOp a.eval o).run P w = .ok (.value x) w') (hK:K (a.put o.dst x) w'):o.wpIn Fence.wide 0 P a w K Q :=
 Q6 (l:=none) (.inl rfl) (fun _ _ h=>h) (show o.wp P a w K Q by unfold Oper.wp; rw [hr]; exact hK)
theorem VD {f:FuncId} {its:List Nat} {A:ApC} (hA:ρ.ap f=some A) (hsh:L6 P f=some A) (hits:∀ g∈its,Jr P g) {cf:CF} {cf2:FL} (hcf:Gp P ρ B cf) (h2:∀ f,cf2 (BA f)=cf f) {args:List V} {Φ:R->Prop}
  (hr:(UQ f its cf2 args h n).sat Φ) {φ:B9} {w:World} {xs:Array Value} (g:Gam ρ B h n φ w) (hxs:Bs ρ φ args xs.toList) :
  Jh P f xs w fun x w'=>∃ v h1 n1 φ',Φ (.rv v h1 n1)∧Fr h h1 φ φ' n n1 w w'∧Gam ρ B h1 n1 φ' w'∧AL ρ φ' v x:=by
 unfold L6 at hsh
 split at hsh
 next fn hfn =>
  split at hsh
  next i0 r0 i1 r1 b0 s6 ps asg bod i4 r4 hbody =>
   split at hsh
   next o1 o2 o3 o4 o5 par s4 e0 e1 e4 eps ers =>
    split at hsh
    next tS s0 c2 s1 tL s2 s12 p1 p2 p3 p4 p5 =>
     split at hsh
     next hc =>
      obtain ⟨hname,hnt,rfl,rfl,rfl,rfl,rfl,rfl,d1,d2,d3,d4,d5,g1,g2,g3,g4,g5,hagg⟩:=hc
      cases hsh
      have hname:(fn.name == "runtime.NumGoroutine")=false:=hname
      -- the arguments
      unfold UQ at hr
      obtain ⟨v,l,rfl,q1⟩:=Eu (R.sat_good hr)
      rw [q1] at hr
      obtain ⟨s,l,rfl,q2⟩:=Eu (R.sat_good hr)
      rw [q2] at hr
      obtain ⟨rfl,q3⟩:=I5 (R.sat_good hr)
      rw [q3] at hr
      obtain ⟨rfl,q4⟩:=NF (R.sat_good hr)
      rw [q4] at hr
      obtain ⟨it,caps,rfl,q5⟩:=OK (R.sat_good hr)
      rw [q5] at hr
      obtain ⟨hmem,q6⟩:=Kw (R.sat_good hr)
      rw [q6,BO,BB] at hr
      rcases K4.nx_eq n _ with ⟨m,e⟩ | ⟨n1,hn1,e⟩
      ·rw [e] at hr; exact hr.elim
      rw [e,BO,BB] at hr
      rcases K4.nx_eq n1 _ with ⟨m,e⟩ | ⟨n2,hn2,e'⟩
      ·rw [e] at hr; exact hr.elim
      rw [e'] at hr
      have hr:=DG hr
      rw [h2] at hr
      obtain ⟨X0,l0,hx0,r0',hl0⟩:=AJ.1 hxs
      obtain ⟨X1,l1,rfl,r1',hl1⟩:=AJ.1 hl0
      have hl1:=AT.1 hl1
      subst hl1
      have hX0:=BS r0'
      obtain ⟨cs,hX1,rcs⟩:=Iw r1'
      have hps:ps = #[par]:=by cases ps; simp at eps; rw [eps]
      have hres:fn.results = #[.tmp 4]:=by cases hh:fn.results with | mk l=>rw [hh] at ers; simp at ers; rw [ers]
      -- the box
      obtain ⟨ga,fa⟩:=Ct g (n':=n1) hn1 (e:=tS) (fr:=(0,0)) (c:=#[X0]) (cs:=.l [.nil .sl]) (by simp [Cs.len]) (Jk _)
       (by have:=DJ (ρ:=ρ) (φ:=φ) (l:=[.nil .sl]) (xs:=[X0]) (AJ.2 ⟨X0,[],rfl,r0',AT.2 rfl⟩) (by simp [hX0,C8,Value.oneCell']); simpa using this)
      generalize hW0:w.alloc (.cells #[X0] tS (0,0))=W0 at ga fa
      have hb0:W0.heap[w.heap.size]? = some (.cells #[X0] tS (0,0)):=by rw [←hW0]; exact World.alloc_heap_new w _
      have gb:=ga.push (.deferred (some []))
      have fb:=Fr.trans fa (Fr.push (h:=B6 n h (some (.c (.l [.nil .sl]) false none))) (n:=n1) (φ:=E7 φ n (w.heap.size,0,(#[X0]:Array Value).size)) (.deferred (some [])))
      have hs0:W0.heap.size=w.heap.size+1:=by rw [←hW0,World.size_alloc]
      generalize htm:((((#[X0,X1]:Array Value)++Array.replicate (fn.ntmps - 2) undef).setIfInBounds 2 (.pointer (some ⟨w.heap.size,0,none⟩))).setIfInBounds 4 c2).setIfInBounds 6 X1=tm
      have htsz:tm.size=13:=by rw [←htm,hnt]; simp
      have ht2:tm.getD 2 undef = .pointer (some ⟨w.heap.size,0,none⟩):=by rw [←htm,hnt]; simp [Array.getD_eq_getD_getElem?]
      have ht6:tm.getD 6 undef=X1:=by rw [←htm,hnt]; simp [Array.getD_eq_getD_getElem?]
      intro o a K Q hK
      have hcf':(callFunc f #[X0,X1]).run P w = .ok (.enter f #[X0,X1]) w:=by
       have hname':fn.name ≠ "runtime.NumGoroutine":=by simpa using hname
       simp [callFunc,hfn,hname',hbody]
      have hxe:xs = #[X0,X1]:=by cases xs; simp at hx0; rw [hx0]
      rw [hxe,hcf']
      refine (callsIn_wide (n:=0)).1 (callsIn_of_wp_marks hfn hbody trivial ?_ rfl)
      have ev0:Act.eval { tmps:=(#[X0,X1]:Array Value)++Array.replicate (fn.ntmps - (#[X0,X1]:Array Value).size) undef,defers:=[] } (.tmp 0)=X0:=by
       simp [Act.eval,Array.getD_eq_getD_getElem?,Array.getElem?_append]
      have hcl:X0.cells = #[X0]:=by rw [hX0]; rfl
      refine wpIn_seq (wpIn_region_list ?_)
      rw [e0]
      refine wpListIn_plain g1 fun K1 hK1=>BK (x:=.pointer (some ⟨w.heap.size,0,none⟩)) (w':=W0) (by rw [←hW0]; simp only [execOp,p1,ev0]; simp [Instr.box,newVar,EJ,hcl]) (hK1 _ _ ?_)
      refine wpListIn_plain g2 fun K2 hK2=>BK (x:=c2) (w':=W0) (by simp [execOp,p2,Act.eval]) (hK2 _ _ ?_)
      refine wpListIn_nil ?_
      refine wpIn_seq (wpIn_seq (wpIn_region_list ?_))
      rw [e1]
      refine wpListIn_plain g3 fun K3 hK3=>BK (x:=X1) (w':=W0) (by simp only [execOp,p3,Act.eval,Act.put,d1,d2,hnt]; simp [Array.getD_eq_getD_getElem?,Array.getElem?_setIfInBounds]) (hK3 _ _ ?_)
      refine wpListIn_nil ?_
      refine wpIn_block (wpIn_rangeFunc fun fn' _=>?_)
      have hact:((({ tmps:=(#[X0,X1]:Array Value)++Array.replicate (fn.ntmps - (#[X0,X1]:Array Value).size) undef,defers:=[] }:Act).put o1.dst (.pointer (some ⟨w.heap.size,0,none⟩))).put o2.dst c2).put o3.dst X1={ tmps:=tm,defers:=[] }:=by
       rw [d1,d2,d3,←htm]; rfl
      rw [hact]
      generalize hWb:W0.alloc (.deferred (some []))=Wb at gb fb
      have hsb:Wb.heap.size=w.heap.size+2:=by rw [←hWb,World.size_alloc,hs0]
      have hDb:Wb.heap[w.heap.size+1]? = some (.deferred (some [])):=by rw [←hWb,←hs0]; exact World.alloc_heap_new _ _
      have hn1':E7 φ n (w.heap.size,0,(#[X0]:Array Value).size) n1=none:=gb.at_n
      have gc:=gb.alloc (p:=n1) (n':=n2) hn1' (by omega) (by omega) (.lp f n) rfl (.loop (F2 ⟨asg,bod,par,2,13⟩ fn' tm W0.heap.size)) 0
       (fun φ' hle w' hw'=>⟨rfl,⟨asg,bod,par,2,13⟩,fn',tm,W0.heap.size,hA,hw',htsz,by rw [ht2]; exact EG hle CS⟩)
      have fc:=Fr.trans fb (Fr.alloc (h:=B6 n h (some (.c (.l [.nil .sl]) false none))) (w:=Wb) (n:=n1) (n':=n2) (p:=n1) hn1' (by omega) (Nat.le_refl _) (by omega) (some (.lp f n)) (.loop (F2 ⟨asg,bod,par,2,13⟩ fn' tm W0.heap.size)) 0)
      generalize hWc:Wb.alloc (.loop (F2 ⟨asg,bod,par,2,13⟩ fn' tm W0.heap.size))=Wc at gc fc
      have hsc:Wc.heap.size=w.heap.size+3:=by rw [←hWc,World.size_alloc,hsb]
      have hDc:Wc.heap[w.heap.size+1]? = some (.deferred (some [])):=by rw [←hWc,Below.heap_alloc _ _ _ (by omega)]; exact hDb
      have hφn:φ n=none:=g.at_n
      have hφn1:φ n1=none:=by
       cases hx:φ n1 with
       | none=>rfl
       | some x=>have:=g.dom n1 x hx; omega
      generalize hφc:E7 (E7 φ n (w.heap.size,0,(#[X0]:Array Value).size)) n1 (Wb.heap.size,0,0)=φc at gc fc
      have hcn1:φc n1=some (w.heap.size+2,0,0):=by rw [←hφc,BT,hsb]
      have hnn:n1≠n:=fun e=>by rw [e] at hn1; omega
      have hcn:φc n=some (w.heap.size,0,1):=by rw [←hφc,GV hnn,BT]; rfl
      have huD:Uj φc (B6 n1 (B6 n h (some (.c (.l [.nil .sl]) false none))) (some (.lp f n))) (w.heap.size+1):=fun q s tot hq=>by
       rw [←hφc] at hq
       rcases AY hq with ⟨_,e⟩ | ⟨_,hq⟩
       ·simp only [Prod.mk.injEq] at e; omega
       ·rcases AY hq with ⟨_,e⟩ | ⟨_,hq⟩
        ·simp only [Prod.mk.injEq] at e; omega
        ·have:=(g.blk q _ _ _ hq).2; omega
      obtain ⟨fng,cg,hg1,hg2,hg3⟩:=hits it hmem
      have call:=Ha hg1 hg2 (by simpa using hg3) (hcf it _ _ n2 _ hr φc Wc (#[.func (.yield (w.heap.size+2)) #[] #[]]++cs) gc (by
       rw [Array.toList_append]
       exact AJ.2 ⟨_,cs.toList,rfl,by simp only [AL]; exact ⟨_,_,_,hcn1,rfl⟩,by rw [←hφc]; exact Fl (B9.le_trans (CK hφn) (CK hn1')) rcs⟩))
      refine ⟨w.heap.size+2,[{ target:=.collected (w.heap.size+1),args:=#[] }],Wc,{ target:=.fn (.func it) cs,args:=#[.func (.yield (w.heap.size+2)) #[] #[]] },Wc,it,#[.func (.yield (w.heap.size+2)) #[] #[]]++cs,Wc,?_,?_,?_,?_,fun h=>(by cases h),?_⟩
      ·have:=run_enterLoop_outer (P:=P) (w:=W0) fn' tm ps asg bod
       rw [hs0] at this
       show (Instr.enterLoop fn' tm ps asg bod none).run P W0=_
       rw [this,hWb,hps,←hWc,hs0]; rfl
      ·have e6:Act.eval { tmps:=tm,defers:=[] } (.tmp 6) = .func (.func it) #[] cs:=by show tm.getD 6 undef=_; rw [ht6,hX1]
       simp only [resolve,rangeCall,e6,Deferred.ofValue]
       simp [Act.eval]
      ·intro _ _; trivial
      ·simp [invoke,callFunc,hg1,hg2,show fng.name ≠ "runtime.NumGoroutine" by simpa using hg3]
      ·refine (callsIn_wide (n:=0)).2 (call.mono fun e w3 he=>?_)
       cases e with
       | panicked c=>exact he.elim
       | outgrown=>exact he.elim
       | returned u =>
       obtain ⟨v,h3,n3,φ3,hΦ,f3,g3',_⟩:∃ v h1 n1 φ',Ut _ Φ (.rv v h1 n1)∧Fr _ h1 φc φ' n2 n1 Wc w3∧Gam ρ B h1 n1 φ' w3∧AL ρ φ' v u:=he
       have hΦ:(Br n1 h3 fun o=>XD o (PE n h3 fun cs _ _=>FG cs 0 fun sv=>BD n h3 none fun h=>BD n1 h none fun h=>.rv sv h n3)).sat Φ:=hΦ
       rw [BC] at hΦ
       obtain ⟨⟨f',b',hlp⟩,q7⟩:=RZ (R.sat_good hΦ)
       rw [q7,Gy] at hΦ
       obtain ⟨cs3,sup3,prev3,hbx,q8⟩:=CP (R.sat_good hΦ)
       rw [q8] at hΦ
       obtain ⟨sv,hsv,q9⟩:=GK (R.sat_good hΦ)
       rw [q9,BO,BB,BO,BB] at hΦ
       have hΦ:Φ (.rv sv (B6 n1 (B6 n h3 none) none) n3):=hΦ
       have h3n:=f3.ext _ _ hcn
       have h3n1:=f3.ext _ _ hcn1
       obtain ⟨_,A3,fn3,tm3,D3,_,hrec,_,_⟩:=g3'.obj n1 _ _ _ _ hlp h3n1
       obtain ⟨c3,e3,fr3,k1,k2,k3,k4,k5⟩:=g3'.obj n _ _ _ _ hbx h3n
       obtain ⟨SV,hSV,rSV,_⟩:=k5 0 sv hsv
       have hD3:w3.heap[w.heap.size+1]? = some (.deferred (some [])):=(f3.old _ (by omega) huD).trans hDc
       have uD3:=huD.step (by omega) f3
       have ul3:Uj φ3 (B6 n1 (B6 n h3 none) none) (w.heap.size+2):=fun q s tot hq=>by
        by_cases e:n1=q
        ·subst e; exact AG _ _ _
        ·rw [Ay _ _ e]
         by_cases e':n=q
         ·subst e'; exact AG _ _ _
         ·rw [Ay _ _ e']
          cases hq':AM q h3 with
          | none=>rfl
          | some o2 =>
           rcases g3'.sep n1 q _ o2 _ _ _ s tot e hlp hq' h3n1 hq with e2 | e2
           ·cases e2
           ·have:=g3'.sup q n1 o2 _ _ s tot _ _ hq' e2 hlp hq h3n1; cases this
       refine ⟨none,w3.putObj (w.heap.size+2) (.loop { F2 A3 fn3 tm3 D3 with state:=.exhausted }),run_endLoop hrec (by simp),?_⟩
       refine wpIn_seq (wpIn_region_list ?_)
       rw [e4]
       generalize hw4:w3.putObj (w.heap.size+2) (.loop { F2 A3 fn3 tm3 D3 with state:=.exhausted })=w4
       have hb4:w4.heap[w.heap.size]? = some (.cells c3 e3 fr3):=by rw [←hw4,World.putObj_heap_other (by omega)]; exact k1
       have hD4:w4.heap[w.heap.size+1]? = some (.deferred (some [])):=by rw [←hw4,World.putObj_heap_other (by omega)]; exact hD3
       have hld:(execOp (Act.eval { tmps:=tm,defers:=[{ target:=.collected (w.heap.size+1),args:=#[] }]++[] }) o4).run P w4 = .ok (.value SV) w4:=by
        have e2:Act.eval { tmps:=tm,defers:=[{ target:=.collected (w.heap.size+1),args:=#[] }]++[] } (.tmp 2) = .pointer (some ⟨w.heap.size,0,none⟩):=ht2
        simp only [execOp,p4,e2]
        simp [Instr.loadAt,Instr.sureAddr,loadVar,CC hagg,GL hb4 hSV]
       refine wpListIn_plain g4 fun K4 hK4=>BK hld (hK4 _ _ ?_)
       refine wpListIn_plain g5 fun K5 hK5=>BK (x:=SV) (w':=w4) (by
        simp only [execOp,p5,Act.eval,Act.put,d4]; simp [Array.getD_eq_getD_getElem?,htsz]) (hK5 _ _ ?_)
       refine wpListIn_nil (wpIn_ret ?_)
       have take:=run_takeDeferred (P:=P) hD4
       rw [d4,d5]
       show LeavesInM Fence.wide 0 P fn _ _ [{ target:=.collected (w.heap.size+1),args:=#[] }] .returning w4
       unfold LeavesInM
       refine ⟨(by intro h; cases h),.inl ⟨w.heap.size+1,_,rfl,take,?_⟩⟩
       unfold LeavesInM LeavesIn
       refine ⟨SV,?_,?_⟩
       ·simp [results,hres,Act.put,htsz,Array.getD_eq_getD_getElem?]
       ·have hna:∀ q,φ q≠none->AM q (B6 n1 (B6 n h3 none) none)=AM q h3:=fun q hq=>by
         rw [Ay _ _ (fun e:n1=q=>hq (by rw [←e]; exact hφn1)),Ay _ _ (fun e:n=q=>hq (by rw [←e]; exact hφn))]
        have fz:=((Fr.trans fc f3).show hna).poke (l:=w.heap.size+2) (.loop { F2 A3 fn3 tm3 D3 with state:=.exhausted }) (by omega)
        have gz:=(g3'.aside (p:=n)).aside (p:=n1)
        have gz:=gz.poke ul3 (.loop { F2 A3 fn3 tm3 D3 with state:=.exhausted }) (fun c e fr h=>by rw [hrec] at h; cases h)
        rw [hw4] at fz gz
        have uDz:Uj φ3 (B6 n1 (B6 n h3 none) none) (w.heap.size+1):=fun q s tot hq=>by
         by_cases e:n1=q
         ·subst e; exact AG _ _ _
         ·rw [Ay _ _ e]
          by_cases e':n=q
          ·subst e'; exact AG _ _ _
          ·rw [Ay _ _ e']; exact uD3 q s tot hq
        exact hK SV _ ⟨sv,_,n3,φ3,hΦ,fz.poke _ (by omega),gz.poke uDz _ (fun c e fr h=>by rw [hD4] at h; cases h),rSV⟩
     next=>cases hsh
    next=>cases hsh
   next=>cases hsh
  next=>cases hsh
 next=>cases hsh
end
end Go.Ev

namespace Go.Ev
set_option linter.unusedVariables false
inductive Ent where
 | code (entry:List V->(S->R)->R) (body:FL->S->Heap->K4->R) (res:S->Heap->K4->R)
 | prim (p:IG)
 | br (k:Nat) (entry:List V->(S->R)->R) (body:FL->S->Heap->K4->R) (res:S->Heap->K4->R)
 | ap (f:Nat) (its:List Nat) (rd:Rd)
 | tree (p:IG)
abbrev D6:=Option Ent
def Ent.toBr (k:Nat) (e:Ent):Ent:=@Ent.rec (fun _=>Ent) (fun en bo re=>.br k en bo re) (fun p=>.prim p) (fun k en bo re=>.br k en bo re) (fun f its rd=>.ap f its rd) (fun p=>.tree p) e
inductive FA where
 | mk (c0 c1 c2 c3 c4 c5 c6 c7 c8 c9 ca cb cc cd ce cf:D6)
def FA.sel (d:D) (p:FA):D6 :=
 @FA.rec (fun _=>D6) (fun c0 c1 c2 c3 c4 c5 c6 c7 c8 c9 ca cb cc cd ce cf=>@D.rec (fun _=>D6) c0 c1 c2 c3 c4 c5 c6 c7 c8 c9 ca cb cc cd ce cf d) p
def Y0 (p:FA) (k:D6->R):R:=@FA.rec (fun _=>R) (fun c0 c1 c2 c3 c4 c5 c6 c7 c8 c9 ca cb cc cd ce cf=>k c0) p
def Zj (p:FA) (k:D6->R):R:=@FA.rec (fun _=>R) (fun c0 c1 c2 c3 c4 c5 c6 c7 c8 c9 ca cb cc cd ce cf=>k c1) p
def fag2 (p:FA) (k:D6->R):R:=@FA.rec (fun _=>R) (fun c0 c1 c2 c3 c4 c5 c6 c7 c8 c9 ca cb cc cd ce cf=>k c2) p
def Y7 (p:FA) (k:D6->R):R:=@FA.rec (fun _=>R) (fun c0 c1 c2 c3 c4 c5 c6 c7 c8 c9 ca cb cc cd ce cf=>k c3) p
def Yz (p:FA) (k:D6->R):R:=@FA.rec (fun _=>R) (fun c0 c1 c2 c3 c4 c5 c6 c7 c8 c9 ca cb cc cd ce cf=>k c4) p
def Zt (p:FA) (k:D6->R):R:=@FA.rec (fun _=>R) (fun c0 c1 c2 c3 c4 c5 c6 c7 c8 c9 ca cb cc cd ce cf=>k c5) p
def fag6 (p:FA) (k:D6->R):R:=@FA.rec (fun _=>R) (fun c0 c1 c2 c3 c4 c5 c6 c7 c8 c9 ca cb cc cd ce cf=>k c6) p
def fag7 (p:FA) (k:D6->R):R:=@FA.rec (fun _=>R) (fun c0 c1 c2 c3 c4 c5 c6 c7 c8 c9 ca cb cc cd ce cf=>k c7) p
def Yt (p:FA) (k:D6->R):R:=@FA.rec (fun _=>R) (fun c0 c1 c2 c3 c4 c5 c6 c7 c8 c9 ca cb cc cd ce cf=>k c8) p
def YC (p:FA) (k:D6->R):R:=@FA.rec (fun _=>R) (fun c0 c1 c2 c3 c4 c5 c6 c7 c8 c9 ca cb cc cd ce cf=>k c9) p
def Wk (p:FA) (k:D6->R):R:=@FA.rec (fun _=>R) (fun c0 c1 c2 c3 c4 c5 c6 c7 c8 c9 ca cb cc cd ce cf=>k ca) p
def Xb (p:FA) (k:D6->R):R:=@FA.rec (fun _=>R) (fun c0 c1 c2 c3 c4 c5 c6 c7 c8 c9 ca cb cc cd ce cf=>k cb) p
def Wi (p:FA) (k:D6->R):R:=@FA.rec (fun _=>R) (fun c0 c1 c2 c3 c4 c5 c6 c7 c8 c9 ca cb cc cd ce cf=>k cc) p
def VY (p:FA) (k:D6->R):R:=@FA.rec (fun _=>R) (fun c0 c1 c2 c3 c4 c5 c6 c7 c8 c9 ca cb cc cd ce cf=>k cd) p
def VZ (p:FA) (k:D6->R):R:=@FA.rec (fun _=>R) (fun c0 c1 c2 c3 c4 c5 c6 c7 c8 c9 ca cb cc cd ce cf=>k ce) p
def VQ (p:FA) (k:D6->R):R:=@FA.rec (fun _=>R) (fun c0 c1 c2 c3 c4 c5 c6 c7 c8 c9 ca cb cc cd ce cf=>k cf) p
def FA.selK (d:D):FA->(D6->R)->R :=
 @D.rec (fun _=>FA->(D6->R)->R) Y0 Zj fag2 Y7 Yz Zt fag6 fag7 Yt YC Wk Xb Wi VY VZ VQ d
theorem FA.selK_eq (d:D) (p:FA) (k:D6->R):FA.selK d p k=k (FA.sel d p):=by
 cases d <;> cases p <;> rfl
inductive FB where
 | mk (c0 c1 c2 c3 c4 c5 c6 c7 c8 c9 ca cb cc cd ce cf:FA)
def FB.sel (d:D) (p:FB):FA :=
 @FB.rec (fun _=>FA) (fun c0 c1 c2 c3 c4 c5 c6 c7 c8 c9 ca cb cc cd ce cf=>@D.rec (fun _=>FA) c0 c1 c2 c3 c4 c5 c6 c7 c8 c9 ca cb cc cd ce cf d) p
def fbg0 (p:FB) (k:FA->R):R:=@FB.rec (fun _=>R) (fun c0 c1 c2 c3 c4 c5 c6 c7 c8 c9 ca cb cc cd ce cf=>k c0) p
def YJ (p:FB) (k:FA->R):R:=@FB.rec (fun _=>R) (fun c0 c1 c2 c3 c4 c5 c6 c7 c8 c9 ca cb cc cd ce cf=>k c1) p
def Zm (p:FB) (k:FA->R):R:=@FB.rec (fun _=>R) (fun c0 c1 c2 c3 c4 c5 c6 c7 c8 c9 ca cb cc cd ce cf=>k c2) p
def XE (p:FB) (k:FA->R):R:=@FB.rec (fun _=>R) (fun c0 c1 c2 c3 c4 c5 c6 c7 c8 c9 ca cb cc cd ce cf=>k c3) p
def ZX (p:FB) (k:FA->R):R:=@FB.rec (fun _=>R) (fun c0 c1 c2 c3 c4 c5 c6 c7 c8 c9 ca cb cc cd ce cf=>k c4) p
def ZB (p:FB) (k:FA->R):R:=@FB.rec (fun _=>R) (fun c0 c1 c2 c3 c4 c5 c6 c7 c8 c9 ca cb cc cd ce cf=>k c5) p
def YE (p:FB) (k:FA->R):R:=@FB.rec (fun _=>R) (fun c0 c1 c2 c3 c4 c5 c6 c7 c8 c9 ca cb cc cd ce cf=>k c6) p
def Za (p:FB) (k:FA->R):R:=@FB.rec (fun _=>R) (fun c0 c1 c2 c3 c4 c5 c6 c7 c8 c9 ca cb cc cd ce cf=>k c7) p
def fbg8 (p:FB) (k:FA->R):R:=@FB.rec (fun _=>R) (fun c0 c1 c2 c3 c4 c5 c6 c7 c8 c9 ca cb cc cd ce cf=>k c8) p
def fbg9 (p:FB) (k:FA->R):R:=@FB.rec (fun _=>R) (fun c0 c1 c2 c3 c4 c5 c6 c7 c8 c9 ca cb cc cd ce cf=>k c9) p
def Wh (p:FB) (k:FA->R):R:=@FB.rec (fun _=>R) (fun c0 c1 c2 c3 c4 c5 c6 c7 c8 c9 ca cb cc cd ce cf=>k ca) p
def WG (p:FB) (k:FA->R):R:=@FB.rec (fun _=>R) (fun c0 c1 c2 c3 c4 c5 c6 c7 c8 c9 ca cb cc cd ce cf=>k cb) p
def VR (p:FB) (k:FA->R):R:=@FB.rec (fun _=>R) (fun c0 c1 c2 c3 c4 c5 c6 c7 c8 c9 ca cb cc cd ce cf=>k cc) p
def WJ (p:FB) (k:FA->R):R:=@FB.rec (fun _=>R) (fun c0 c1 c2 c3 c4 c5 c6 c7 c8 c9 ca cb cc cd ce cf=>k cd) p
def WD (p:FB) (k:FA->R):R:=@FB.rec (fun _=>R) (fun c0 c1 c2 c3 c4 c5 c6 c7 c8 c9 ca cb cc cd ce cf=>k ce) p
def X8 (p:FB) (k:FA->R):R:=@FB.rec (fun _=>R) (fun c0 c1 c2 c3 c4 c5 c6 c7 c8 c9 ca cb cc cd ce cf=>k cf) p
def FB.selK (d:D):FB->(FA->R)->R :=
 @D.rec (fun _=>FB->(FA->R)->R) fbg0 YJ Zm XE ZX ZB YE Za fbg8 fbg9 Wh WG VR WJ WD X8 d
theorem FB.selK_eq (d:D) (p:FB) (k:FA->R):FB.selK d p k=k (FB.sel d p):=by
 cases d <;> cases p <;> rfl
inductive FC where
 | mk (c0 c1 c2 c3 c4 c5 c6 c7 c8 c9 ca cb cc cd ce cf:FB)
def FC.sel (d:D) (p:FC):FB :=
 @FC.rec (fun _=>FB) (fun c0 c1 c2 c3 c4 c5 c6 c7 c8 c9 ca cb cc cd ce cf=>@D.rec (fun _=>FB) c0 c1 c2 c3 c4 c5 c6 c7 c8 c9 ca cb cc cd ce cf d) p
def YD (p:FC) (k:FB->R):R:=@FC.rec (fun _=>R) (fun c0 c1 c2 c3 c4 c5 c6 c7 c8 c9 ca cb cc cd ce cf=>k c0) p
def YY (p:FC) (k:FB->R):R:=@FC.rec (fun _=>R) (fun c0 c1 c2 c3 c4 c5 c6 c7 c8 c9 ca cb cc cd ce cf=>k c1) p
def fcg2 (p:FC) (k:FB->R):R:=@FC.rec (fun _=>R) (fun c0 c1 c2 c3 c4 c5 c6 c7 c8 c9 ca cb cc cd ce cf=>k c2) p
def Ya (p:FC) (k:FB->R):R:=@FC.rec (fun _=>R) (fun c0 c1 c2 c3 c4 c5 c6 c7 c8 c9 ca cb cc cd ce cf=>k c3) p
def Yi (p:FC) (k:FB->R):R:=@FC.rec (fun _=>R) (fun c0 c1 c2 c3 c4 c5 c6 c7 c8 c9 ca cb cc cd ce cf=>k c4) p
def Yb (p:FC) (k:FB->R):R:=@FC.rec (fun _=>R) (fun c0 c1 c2 c3 c4 c5 c6 c7 c8 c9 ca cb cc cd ce cf=>k c5) p
def ZJ (p:FC) (k:FB->R):R:=@FC.rec (fun _=>R) (fun c0 c1 c2 c3 c4 c5 c6 c7 c8 c9 ca cb cc cd ce cf=>k c6) p
def Yl (p:FC) (k:FB->R):R:=@FC.rec (fun _=>R) (fun c0 c1 c2 c3 c4 c5 c6 c7 c8 c9 ca cb cc cd ce cf=>k c7) p
def Zv (p:FC) (k:FB->R):R:=@FC.rec (fun _=>R) (fun c0 c1 c2 c3 c4 c5 c6 c7 c8 c9 ca cb cc cd ce cf=>k c8) p
def Yr (p:FC) (k:FB->R):R:=@FC.rec (fun _=>R) (fun c0 c1 c2 c3 c4 c5 c6 c7 c8 c9 ca cb cc cd ce cf=>k c9) p
def Wg (p:FC) (k:FB->R):R:=@FC.rec (fun _=>R) (fun c0 c1 c2 c3 c4 c5 c6 c7 c8 c9 ca cb cc cd ce cf=>k ca) p
def Xg (p:FC) (k:FB->R):R:=@FC.rec (fun _=>R) (fun c0 c1 c2 c3 c4 c5 c6 c7 c8 c9 ca cb cc cd ce cf=>k cb) p
def VN (p:FC) (k:FB->R):R:=@FC.rec (fun _=>R) (fun c0 c1 c2 c3 c4 c5 c6 c7 c8 c9 ca cb cc cd ce cf=>k cc) p
def VU (p:FC) (k:FB->R):R:=@FC.rec (fun _=>R) (fun c0 c1 c2 c3 c4 c5 c6 c7 c8 c9 ca cb cc cd ce cf=>k cd) p
def Xa (p:FC) (k:FB->R):R:=@FC.rec (fun _=>R) (fun c0 c1 c2 c3 c4 c5 c6 c7 c8 c9 ca cb cc cd ce cf=>k ce) p
def Wt (p:FC) (k:FB->R):R:=@FC.rec (fun _=>R) (fun c0 c1 c2 c3 c4 c5 c6 c7 c8 c9 ca cb cc cd ce cf=>k cf) p
def FC.selK (d:D):FC->(FB->R)->R :=
 @D.rec (fun _=>FC->(FB->R)->R) YD YY fcg2 Ya Yi Yb ZJ Yl Zv Yr Wg Xg VN VU Xa Wt d
theorem FC.selK_eq (d:D) (p:FC) (k:FB->R):FC.selK d p k=k (FC.sel d p):=by
 cases d <;> cases p <;> rfl
def Jy (k:K3) (T:FC):D6:=FA.sel k.c (FB.sel k.b (FC.sel k.a T))
def V9 (k:K3) (T:FC) (κ:D6->R):R:=@K3.rec (fun _=>R) (fun a b c=>FC.selK a T fun x=>FB.selK b x fun y=>FA.selK c y κ) k
theorem TE (k:K3) (T:FC) (κ:D6->R):V9 k T κ=κ (Jy k T):=by
 cases k; simp only [V9,Jy,FC.selK_eq,FB.selK_eq,FA.selK_eq]
abbrev Jc (ps:List K2):List V->Regs->(Regs->R)->R :=
 @List.rec K2 (fun _=>List V->Regs->(Regs->R)->R) (fun l t κ=>OC l (κ t)) (fun p _ ih l t κ=>G9 l fun v l=>MW p t v fun t=>ih l t κ) ps
theorem KD:∀ (ps:List K2) (l:List V) (t:Regs) (κ:Regs->R),Jc ps l t κ=QW l ps t κ
 | [],l,t,κ=>by cases l <;> rfl
 | p::ps,l,t,κ=>by
  cases l with
  | nil=>rfl
  | cons v l =>
   show MW p t v (fun t=>Jc ps l t κ)=MW p t v fun t=>QW l ps t κ
   rw [MT,MT,KD]
def OI (r:R) (res:S->Heap->K4->R):R :=
 @R.rec (fun _=>R) (fun e t h n=>@Ex.rec (fun _=>R) (res t h n) (Bc "") (res t h n) e) (C2 "") (fun w=>.fail w) (fun _ _ a b=>.both a b) r
def Oi (r:R):R:=@R.rec (fun _=>R) (FF "") (fun v h n=>.rv v h n) (fun w=>.fail w) (FF "") r
def Ui (v:V) (yes no:R):R :=
 @V.rec (fun _=>R) (fun _=>Unit) (fun _ _=>no) (fun _=>no) (fun _ _=>no) (fun _ _ _ _ _ _=>no) (fun _ _=>no) (fun _ _=>no) (fun _=>no) (fun _=>no) (fun _ _ _=>no) (fun _ _=>no)
  (fun o=>@Ot.rec (fun _=>R) no (fun _=>no) (fun _=>no) yes (fun _ _ _=>no) (fun _ _=>no) no (fun _ _=>no) (fun _ _ _ _=>no) (fun _ _ _ _=>no) (fun _ _ _=>no) (fun _ _=>no) o) () (fun _ _ _ _=>()) v
def Yq (f:Nat) (its:List Nat) (rd:Rd) (cf:FL) (args:List V) (h:Heap) (n:K4):R :=
 G9 args fun v l=>Ui v (G9 l fun b l=>G9 l fun x l=>OC l (rd cf b x h n)) (UQ f its cf args h n)
def KY (cf:FL) (o:D6) (args:List V) (h:Heap) (n:K4):R :=
 @Option.rec Ent (fun _=>R) (.fail "") (fun e=>@Ent.rec (fun _=>R) (fun entry body res=>entry args fun t=>OI (body cf t h n) res) (fun p=>Oi (p args h n)) (fun k entry body res=>Oi (Xu k (fun hs=>entry args fun t=>OI (body cf t hs n) res) args h n)) (fun f its rd=>Yq f its rd cf args h n) (fun p=>p args h n) e) o
def E5 (T:FC) (m:Nat):FL :=
 @Nat.rec (fun _=>FL) (FF "") (fun _ ih f args h n=>V9 f T fun o=>KY ih o args h n) m
abbrev Tj (sm:SM) (t:Regs):S:=@List.rec (K2×SL) (fun _=>S) EB (fun x _ ih=>S.put x.2 ih (Bg x.1 t)) sm
theorem N6 {t:Regs}:∀ {sm:SM},NU sm=true->∀ {p:K2} {s:SL},BI p sm=some s->S.get s (Tj sm t)=Bg p t
 | [],_,p,s,h=>by cases h
 | x::l,hok,p,s,h=>by
  simp only [NU,Bool.and_eq_true] at hok
  have e1:Tj (x::l) t=S.put x.2 (Tj l t) (Bg x.1 t):=rfl
  rw [e1]
  simp only [BI] at h
  cases hb:K2.beq x.1 p with
  | true =>
   rw [hb] at h
   have h:some x.2=some s:=h
   cases h
   rw [S.get_put_same,K2.beq_iff.1 hb]
  | false =>
   rw [hb] at h
   have h:BI p l=some s:=h
   have hne:x.2≠s:=fun e=>by
    have:=List.all_eq_true.1 hok.1 _ (GJ h)
    rw [←e] at this
    simp [SL.beq,O8.beq_self,O4.beq_self] at this
   rw [S.get_put_ne _ _ hne]
   exact N6 hok.2 h
abbrev SY (sm:SM) (r:ARes) (t:S) (h:Heap) (κ:V->R):R :=
 @ARes.rec (fun _=>R) (fun p=>Bk sm [] t (.t p) κ) (fun p m=>Bk sm [] t (.t p) fun v=>IB v fun q off=>PE q h fun cs _ _ =>
  @Option.rec Nat (fun _=>R) (FG cs off κ) (fun m=>BW cs off m fun y=>Ed y fun l=>κ (.agg l)) m) r
abbrev PZ (sm:SM) (rs:List ARes) (t:S) (h:Heap):(List V->R)->R :=
 @List.rec ARes (fun _=>(List V->R)->R) (fun κ=>κ []) (fun r _ ih κ=>SY sm r t h fun v=>ih fun vs=>κ (v::vs)) rs
abbrev In (sm:SM) (rs:List ARes) (t:S) (h:Heap) (n:K4):R :=
 PZ sm rs t h fun l=>@List.rec V (fun _=>R) (.rv (.tup []) h n) (fun v vs _=>@List.rec V (fun _=>R) (.rv v h n) (fun _ _ _=>.rv (.tup l) h n) vs) l
abbrev ZK (sm:SM) (a:AFn):Ent:=@AFn.rec (fun _=>Ent) (fun ps c rs=>.code (fun l κ=>Jc ps l Gc fun t=>κ (Tj sm t)) (fun cf t h n=>Gk sm cf c r0 [] t h n) (fun t h n=>In sm rs t h n)) a
def ARes.reg (r:ARes):K2:=@ARes.rec (fun _=>K2) (fun p=>p) (fun p _=>p) r
def okF (sm:SM) (a:AFn):Bool:=NU sm&&(F1 sm a.code (fun _=>true) []&&a.rs.all fun r=>Gl sm r.reg)
abbrev Wd (sm:SM) (o:Option AFn):D6:=@Option.rec AFn (fun _=>D6) none (fun a=>some (ZK sm a)) o
def XB (sm:SM) (o:Option AFn):Bool:=@Option.rec AFn (fun _=>Bool) false (fun a=>okF sm a) o
section
variable {P:Program} {ρ:Env} {B:Nat}
def Af (P:Program) (f:FuncId) (e:Ent):Prop:=∃ sm:SM,Wd sm (FZ P f)=some e∧XB sm (FZ P f)=true
theorem Af.mk {f:FuncId} {e:Ent} (sm:SM) (h:Wd sm (FZ P f)=some e) (k:XB sm (FZ P f)=true):Af P f e:=⟨sm,h,k⟩
def ZP (P:Program) (f:FuncId) (e:Ent):Prop:=∃ k en bo re,e = .br k en bo re∧Af P f (.code en bo re)
def BP (P:Program) (ρ:Env) (f:FuncId) (e:Ent):Prop:=∃ its rd A,e = .ap f its rd∧ρ.ap f=some A∧L6 P f=some A∧Sv P A=some rd ∧ ∀ g∈its,Jr P g
def SE (P:Program) (ρ:Env) (B:Nat) (f:FuncId) (p:IG):Prop :=
 ∀ args h n (Φ:R->Prop),(p args h n).sat Φ->∀ φ w (xs:Array Value),Gam ρ B h n φ w->Bs ρ φ args xs.toList →
  Jh P f xs w fun x w'=>∃ v h1 n1 φ',Φ (.rv v h1 n1)∧Fr h h1 φ φ' n n1 w w'∧Gam ρ B h1 n1 φ' w'∧AL ρ φ' v x
def M8 (P:Program) (ρ:Env) (B:Nat) (f:FuncId) (e:Ent):Prop:=(Af P f e∨ZP P f e)∨((∃ p,e = .prim p∧Hg P ρ B f p)∨(BP P ρ f e ∨ ∃ p,e = .tree p∧SE P ρ B f p))
def H3 (P:Program) (ρ:Env) (B:Nat) (T:FC):Prop:=(∀ f e,Jy (BA f) T=some e->M8 P ρ B f e) ∧ ∀ f A,ρ.ap f=some A->∃ e,Jy (BA f) T=some e∧BP P ρ f e
theorem LJ {r:R} {Φ:R->Prop} (h:(Oi r).sat Φ):∃ v h1 n1,r = .rv v h1 n1∧Φ (.rv v h1 n1):=by
 cases r with
 | rv v h1 n1=>exact ⟨v,h1,n1,rfl,h⟩
 | _=>exact h.elim
theorem RO {sm:SM} {r:ARes} {t:Regs} {t':S} (ri:RI sm [] [] t t') (hk:Gl sm r.reg=true) (hp:Heap) (κ:V->R):SY sm r t' hp κ=KF r t hp κ:=by
 have kn:∀ p,Gl sm p=true->Jg sm [] p=true:=fun p h=>by unfold Jg; rw [h,Bool.or_true]
 cases r with
 | tmp p=>show Bk sm [] t' (.t p) κ=Hb p t κ; rw [ri.tell (kn p hk),Cz]
 | cel p m =>
  show Bk sm [] t' (.t p) _=Hb p t _
  rw [ri.tell (kn p hk),Cz,Gy]
theorem Ou {sm:SM} {t:Regs} {t':S} (ri:RI sm [] [] t t') {hp:Heap}:∀ {rs:List ARes} {κ:List V->R},(∀ r∈rs,Gl sm r.reg=true)->PZ sm rs t' hp κ=Jn rs t hp κ
 | [],κ,_=>rfl
 | r::rs,κ,h=>by
  have e1:PZ sm (r::rs) t' hp κ=SY sm r t' hp fun v=>PZ sm rs t' hp fun vs=>κ (v::vs):=rfl
  have e2:Jn (r::rs) t hp κ=KF r t hp fun v=>Jn rs t hp fun vs=>κ (v::vs):=rfl
  rw [e1,e2,RO ri (h r (List.mem_cons_self ..))]
  congr 1; funext v
  exact Ou ri fun r hr=>h r (List.mem_cons_of_mem _ hr)
theorem Od {sm:SM} {t:Regs} {t':S} (ri:RI sm [] [] t t') {hp:Heap} {n:K4} {rs:List ARes} (h:∀ r∈rs,Gl sm r.reg=true):In sm rs t' hp n=Pm rs t hp n:=Ou ri h
def X4 (res:S->Heap->K4->R) (Φ:R->Prop):R->Prop
 | .ok .nrm t h n=>(res t h n).sat Φ
 | .ok .ret t h n=>(res t h n).sat Φ
 | _=>False
theorem I2 {res:S->Heap->K4->R} {Φ:R->Prop}:∀ {r:R},(OI r res).sat Φ->r.sat (X4 res Φ)
 | .ok e t h n,hs=>by
  cases e with
  | nrm=>exact hs
  | ret=>exact hs
  | exit j=>exact hs.elim
 | .rv _ _ _,hs=>hs.elim
 | .fail _,hs=>hs.elim
 | .both a b,hs=>⟨I2 (r:=a) hs.1,I2 (r:=b) hs.2⟩
theorem TF {r:ARes} {t:Regs} {h:Heap} {κ:V->R} (hg:(KF r t h κ).good):∃ v,KF r t h κ=κ v:=by
 cases r with
 | tmp p=>exact ⟨_,Cz p t κ⟩
 | cel p m =>
  have e1:KF (.cel p m) t h κ=IB (Bg p t) fun q off=>It q h fun cs _ _ =>
    @Option.rec Nat (fun _=>R) (FG cs off κ) (fun m=>BW cs off m fun y=>Ed y fun l=>κ (.agg l)) m:=Cz p t _
  rw [e1] at hg
  obtain ⟨q,off,hv,e2⟩:=CW hg
  rw [e2] at hg
  obtain ⟨cs,sup,prev,hq,e3⟩:=CP hg
  rw [e3] at hg
  cases m with
  | none =>
   obtain ⟨v,_,e4⟩:=GK (show R.good (FG cs off κ) from hg)
   exact ⟨v,e1.trans (e2.trans (e3.trans e4))⟩
  | some m =>
   obtain ⟨hle,y,hyl,hya,e4⟩:=Cu (show R.good (BW cs off m fun y=>Ed y fun l=>κ (.agg l)) from hg)
   obtain ⟨l,e5,_,_⟩:=Fo y fun l=>κ (.agg l)
   exact ⟨.agg l,e1.trans (e2.trans (e3.trans (Eq.trans e4 e5)))⟩
theorem Qg:∀ {rs:List ARes} {t:Regs} {h:Heap} {κ:List V->R},(Jn rs t h κ).good->∃ vs,Jn rs t h κ=κ vs
 | [],t,h,κ,_=>⟨[],rfl⟩
 | r::rs,t,h,κ,hg=>by
  have hg:R.good (KF r t h fun v=>Jn rs t h fun vs=>κ (v::vs)):=hg
  obtain ⟨v,e1⟩:=TF hg
  rw [e1] at hg
  obtain ⟨vs,e2⟩:=Qg hg
  exact ⟨v::vs,Eq.trans e1 e2⟩
theorem Q4 {rs:List ARes} {t:Regs} {h:Heap} {n:K4} (hg:(Pm rs t h n).good):∃ v,Pm rs t h n = .rv v h n:=by
 obtain ⟨vs,e⟩:=Qg (show R.good (Jn rs t h _) from hg)
 have e:Pm rs t h n=_:=e
 match vs,e with
 | [],e=>exact ⟨_,e⟩
 | [u],e=>exact ⟨_,e⟩
 | u::u'::us,e=>exact ⟨_,e⟩
theorem Lb (hρ:Bo ρ) (hm:P.follows .mixedOrders=true) {cf:CF} {cf2:FL} (hct:Gp P ρ B cf) (hR:FP P ρ B cf) (h2:∀ f,cf2 (BA f)=cf f) {f:FuncId} {e:Ent} (he:Af P f e) {args:List V} {h:Heap} {n:K4} {Φ:R->Prop}
  (hr:(KY cf2 (some e) args h n).sat Φ) {φ:B9} {w:World} {xs:Array Value} (g:Gam ρ B h n φ w) (hxs:Bs ρ φ args xs.toList) :
  Jh P f xs w fun x w'=>∃ v h1 n1 φ',Φ (.rv v h1 n1)∧Fr h h1 φ φ' n n1 w w'∧Gam ρ B h1 n1 φ' w'∧AL ρ φ' v x:=by
 obtain ⟨sm,hd,hok⟩:=he
 cases hf:FZ P f with
 | none=>rw [hf] at hd; cases hd
 | some a =>
  rw [hf] at hd hok
  obtain ⟨fn,c,ps,rs,hfn,hb,hps,hrs,hname,rfl⟩:=Kv hf
  have hd:some (Ent.code (fun l κ=>Jc ps l Gc fun t=>κ (Tj sm t)) (fun cf t h n=>Gk sm cf (AO P fn.ntmps c) r0 [] t h n) (fun t h n=>In sm rs t h n))=some e:=hd
  cases hd
  have hok:(NU sm&&(F1 sm (AO P fn.ntmps c) (fun _=>true) []&&rs.all fun r=>Gl sm r.reg))=true:=hok
  rw [Bool.and_eq_true,Bool.and_eq_true] at hok
  obtain ⟨hsm,hok⟩:=hok
  have inj:∀ {p q s},BI p sm=some s->BI q sm=some s->p=q:=fun h h'=>JG hsm h h'
  have hr:(Jc ps args Gc (fun t=>OI (Gk sm cf2 (AO P fn.ntmps c) r0 [] (Tj sm t) h n) fun t h n=>In sm rs t h n)).sat Φ:=hr
  rw [KD] at hr
  obtain ⟨hlen,t0,e2,H0⟩:=IF (k:=0) (fun i s hi=>by
   obtain ⟨hi',hi2⟩:=List.getElem?_eq_some_iff.1 hi
   simp at hi2; omega) hps (R.sat_good hr)
  rw [e2] at hr
  simp only [List.length_range] at hlen
  have hxl:xs.size=args.length:=by have:=Be hxs; simpa using this
  have hxN:xs.size≤fn.ntmps:=by
   rcases Nat.eq_zero_or_pos xs.size with h0 | h0
   ·omega
   ·have:=IN hps (xs.size - 1) (List.mem_range.2 (by omega)); omega
  have hT:TR ρ fn.ntmps φ t0 { tmps:=xs++Array.replicate (fn.ntmps - xs.size) undef,defers:=[] }:={
   size:=by simp; omega
   defers:=rfl
   at_:=fun s p hs hp=>by
    rw [H0 s p hp,if_pos (Nat.zero_le _),Nat.sub_zero,Je]
    show AL ρ φ _ ((xs++Array.replicate (fn.ntmps - xs.size) undef).getD s undef)
    rw [Array.getD_eq_getD_getElem?]
    by_cases hsx:s<xs.size
    ·rw [Array.getElem?_append_left hsx]
     have hsa:s<args.length:=by omega
     rw [List.getElem?_eq_getElem hsa]
     obtain ⟨x,hx,hrx⟩:=(Cc.1 hxs).2 s _ (List.getElem?_eq_getElem hsa)
     rw [Array.getElem?_toList] at hx
     rw [hx]; exact hrx
    ·rw [Array.getElem?_append_right (by omega),Array.getElem?_replicate,if_pos (by omega),List.getElem?_eq_none (by omega)]
     exact DQ }
  have hx:=I2 hr
  have hOK:=(S2 (N:=fn.ntmps) (sm:=sm) hρ hm hct hR h2 c).join hok.1 (RI.start inj fun p s hs=>N6 hsm hs) hx
  intro o a K Q hK
  have hcf':(callFunc f xs).run P w = .ok (.enter f xs) w:=by
   have hname':fn.name ≠ "runtime.NumGoroutine":=by simpa using hname
   simp [callFunc,hfn,hname',hb]
  rw [hcf']
  refine calls_of_wp hfn hb (hOK φ _ w hT g _ fun e t1 h2' n2 hres φ' a' w' tf f1 g1 T1 hk=>?_)
  have fin:(In sm rs t1 h2' n2).sat Φ->∃ X,(results fn a'.tmps).run P w' = .ok X w'∧K (a.put o.dst X) w':=fun hres=>by
   rw [Od (RI.start inj hk) fun r hr=>List.all_eq_true.1 hok.2 r hr] at hres
   obtain ⟨v,hv⟩:=Q4 (R.sat_good hres)
   obtain ⟨_,_,Hres⟩:=Lj (ρ:=ρ) (B:=B) hrs hv
   rw [hv] at hres
   obtain ⟨X,hX,hrX⟩:=Hres φ' a' w' T1 g1
   exact ⟨X,hX,hK X w' ⟨v,h2',n2,φ',hres,f1,g1,hrX⟩⟩
  cases e with
  | nrm=>obtain ⟨X,hX,hKX⟩:=fin hres; exact ⟨T1.defers,X,hX,hKX⟩
  | exit id=>exact hres.elim
  | ret=>obtain ⟨X,hX,hKX⟩:=fin hres; exact ⟨T1.defers,X,hX,hKX⟩
theorem Mr (hρ:Bo ρ) (hm:P.follows .mixedOrders=true) {T:FC} (hT:H3 P ρ B T):∀ m,Gp P ρ B (fun f=>E5 T m (BA f))∧FP P ρ B (fun f=>E5 T m (BA f)):=by
 intro m
 induction m with
 | zero=>exact ⟨fun f args h n Φ hr=>hr.elim,fun f A fn hA box x h n Φ hr=>hr.elim⟩
 | succ m ih =>
  obtain ⟨hct,hR⟩:=ih
  have e1:∀ f args h n,E5 T (m+1) (BA f) args h n=KY (E5 T m) (Jy (BA f) T) args h n:=fun f args h n=>TE (BA f) T fun o=>KY (E5 T m) o args h n
  refine ⟨fun f args h n Φ hr φ w xs g hxs=>?_,fun f A fn hA box x h n Φ hr φ w tmps X l D g hrec unc hsz hbox hX=>?_⟩
  ·have hr:(E5 T (m+1) (BA f) args h n).sat Φ:=hr
   rw [e1] at hr
   cases ho:Jy (BA f) T with
   | none=>rw [ho] at hr; exact hr.elim
   | some e =>
    rw [ho] at hr
    rcases hT.1 f e ho with (he | ⟨k,en,bo,re,rfl,he⟩) | (⟨p,rfl,hp⟩ | (⟨its,rd,A,rfl,hA,h1,h2,h3⟩ | ⟨p,rfl,hp⟩))
    ·exact Lb hρ hm hct hR (fun _=>rfl) he hr g hxs
    ·obtain ⟨v,h1,n1,hr,hΦ⟩:=LJ (show (Oi (Xu k (fun hs=>en args fun t=>OI (bo (E5 T m) t hs n) re) args h n)).sat Φ from hr)
     intro o a K Q hK
     exact Vp hr g hxs (fun hs Φ hsat gs=>Lb hρ hm hct hR (fun _=>rfl) he (h:=hs) hsat gs hxs) o a K Q fun x w' ⟨φ',f1,g1,r1⟩=>hK x w' ⟨v,h1,n1,φ',hΦ,f1,g1,r1⟩
    ·obtain ⟨v,h1,n1,hr,hΦ⟩:=LJ (show (Oi (p args h n)).sat Φ from hr)
     intro o a K Q hK
     exact hp args h n v h1 n1 hr φ w xs g hxs o a K Q fun x w' ⟨φ',f1,g1,r1⟩=>hK x w' ⟨v,h1,n1,φ',hΦ,f1,g1,r1⟩
    ·have hr:(Yq f its rd (E5 T m) args h n).sat Φ:=hr
     unfold Yq at hr
     obtain ⟨v,l,hl,q1⟩:=Eu (R.sat_good hr)
     rw [q1] at hr
     subst hl
     by_cases hv:v = .oth .no
     ·subst hv
      obtain ⟨y,ys,_,hy,_⟩:=AJ.1 hxs
      simp only [AL] at hy
     ·have e2:∀ A C:R,Ui v A C=C:=fun A C=>by
       cases v with
       | oth o=>cases o with
        | no=>exact absurd rfl hv
        | _=>rfl
       | _=>rfl
      rw [e2] at hr
      exact VD hA h1 h3 hct (fun _=>rfl) hr g hxs
    ·exact hp args h n Φ hr φ w xs g hxs
  ·obtain ⟨e,ho,its,rd,A',rfl,hA',h1,h2,h3⟩:=hT.2 f A hA
   rw [hA] at hA'; cases hA'
   have hr:(E5 T (m+1) (BA f) [.oth .no,.ptr box 0,x] h n).sat Φ:=hr
   rw [e1,ho] at hr
   have hr:(rd (E5 T m) (.ptr box 0) x h n).sat Φ:=hr
   exact VJ hρ hct.ok (fun _=>rfl) h2 hr g hrec unc hsz hbox hX
theorem SW (hρ:Bo ρ) (hm:P.follows .mixedOrders=true) {T:FC} (hT:H3 P ρ B T) (m:Nat):DR P ρ B fun f=>E5 T m (BA f):=(Mr hρ hm hT m).1.ok
end
end Go.Ev

namespace Go.Ev
open Go.RowKit
set_option linter.unusedVariables false
abbrev Au (w:Bool) (v:V) (h:Heap) (n:K4) (F:KV->R) (κ:KV):R:=gd w v F κ h n
abbrev Ab (v:V):R:=.rv v AF ⟨.d0,.d0,.d0,.d0⟩
abbrev alY (b:K4) (j:D) (h:Heap) (F:K4->R) (κ:KV):R:=b.at j fun r=>Br r h fun x=>Hd x (AW (F r) κ)
abbrev G8 (b:K4) (j:D) (h:Heap) (F:K4->R) (κ:V->Heap->R):R:=alY b j h F fun v h _=>κ v h
abbrev Di (b:K4) (j:D) (h:Heap) (κ:R):R:=b.at j fun r=>Br r h fun x=>Hd x κ
abbrev rnX (b:K4) (j:D) (h:Heap) (F:Heap->R) (κ:V->R):R:=b.at j fun r=>Br r h fun x=>UZ x fun ob=>BD r AF (some ob) fun hx=>Ad (F hx) κ
abbrev E2 (m:Nat) (v:V) (h:Heap) (κ:V->R):R:=IB v fun q off=>PE q h fun cs _ _=>BW cs off m fun y=>Ed y fun l=>κ (.agg l)
abbrev U:V:=Cg
abbrev Q0:SQ:=.mk U U U U
abbrev g0 (t:S) (k:V->R):R:=@S.rec (fun _=>R) (fun c0 c1 c2 c3 c4 c5 c6 c7=>@SQ.rec (fun _=>R) (fun d0 d1 d2 d3=>k d0) c0) t
abbrev w0 (t:S) (v:V) (k:S->R):R:=@S.rec (fun _=>R) (fun c0 c1 c2 c3 c4 c5 c6 c7=>@SQ.rec (fun _=>R) (fun d0 d1 d2 d3=>k (.mk (.mk v d1 d2 d3) c1 c2 c3 c4 c5 c6 c7)) c0) t
abbrev g1 (t:S) (k:V->R):R:=@S.rec (fun _=>R) (fun c0 c1 c2 c3 c4 c5 c6 c7=>@SQ.rec (fun _=>R) (fun d0 d1 d2 d3=>k d1) c0) t
abbrev w1 (t:S) (v:V) (k:S->R):R:=@S.rec (fun _=>R) (fun c0 c1 c2 c3 c4 c5 c6 c7=>@SQ.rec (fun _=>R) (fun d0 d1 d2 d3=>k (.mk (.mk d0 v d2 d3) c1 c2 c3 c4 c5 c6 c7)) c0) t
abbrev g2 (t:S) (k:V->R):R:=@S.rec (fun _=>R) (fun c0 c1 c2 c3 c4 c5 c6 c7=>@SQ.rec (fun _=>R) (fun d0 d1 d2 d3=>k d2) c0) t
abbrev w2 (t:S) (v:V) (k:S->R):R:=@S.rec (fun _=>R) (fun c0 c1 c2 c3 c4 c5 c6 c7=>@SQ.rec (fun _=>R) (fun d0 d1 d2 d3=>k (.mk (.mk d0 d1 v d3) c1 c2 c3 c4 c5 c6 c7)) c0) t
abbrev g3 (t:S) (k:V->R):R:=@S.rec (fun _=>R) (fun c0 c1 c2 c3 c4 c5 c6 c7=>@SQ.rec (fun _=>R) (fun d0 d1 d2 d3=>k d3) c0) t
abbrev w3 (t:S) (v:V) (k:S->R):R:=@S.rec (fun _=>R) (fun c0 c1 c2 c3 c4 c5 c6 c7=>@SQ.rec (fun _=>R) (fun d0 d1 d2 d3=>k (.mk (.mk d0 d1 d2 v) c1 c2 c3 c4 c5 c6 c7)) c0) t
abbrev g4 (t:S) (k:V->R):R:=@S.rec (fun _=>R) (fun c0 c1 c2 c3 c4 c5 c6 c7=>@SQ.rec (fun _=>R) (fun d0 d1 d2 d3=>k d0) c1) t
abbrev w4 (t:S) (v:V) (k:S->R):R:=@S.rec (fun _=>R) (fun c0 c1 c2 c3 c4 c5 c6 c7=>@SQ.rec (fun _=>R) (fun d0 d1 d2 d3=>k (.mk c0 (.mk v d1 d2 d3) c2 c3 c4 c5 c6 c7)) c1) t
abbrev g5 (t:S) (k:V->R):R:=@S.rec (fun _=>R) (fun c0 c1 c2 c3 c4 c5 c6 c7=>@SQ.rec (fun _=>R) (fun d0 d1 d2 d3=>k d1) c1) t
abbrev w5 (t:S) (v:V) (k:S->R):R:=@S.rec (fun _=>R) (fun c0 c1 c2 c3 c4 c5 c6 c7=>@SQ.rec (fun _=>R) (fun d0 d1 d2 d3=>k (.mk c0 (.mk d0 v d2 d3) c2 c3 c4 c5 c6 c7)) c1) t
abbrev g6 (t:S) (k:V->R):R:=@S.rec (fun _=>R) (fun c0 c1 c2 c3 c4 c5 c6 c7=>@SQ.rec (fun _=>R) (fun d0 d1 d2 d3=>k d2) c1) t
abbrev w6 (t:S) (v:V) (k:S->R):R:=@S.rec (fun _=>R) (fun c0 c1 c2 c3 c4 c5 c6 c7=>@SQ.rec (fun _=>R) (fun d0 d1 d2 d3=>k (.mk c0 (.mk d0 d1 v d3) c2 c3 c4 c5 c6 c7)) c1) t
abbrev g7 (t:S) (k:V->R):R:=@S.rec (fun _=>R) (fun c0 c1 c2 c3 c4 c5 c6 c7=>@SQ.rec (fun _=>R) (fun d0 d1 d2 d3=>k d3) c1) t
abbrev w7 (t:S) (v:V) (k:S->R):R:=@S.rec (fun _=>R) (fun c0 c1 c2 c3 c4 c5 c6 c7=>@SQ.rec (fun _=>R) (fun d0 d1 d2 d3=>k (.mk c0 (.mk d0 d1 d2 v) c2 c3 c4 c5 c6 c7)) c1) t
abbrev g8 (t:S) (k:V->R):R:=@S.rec (fun _=>R) (fun c0 c1 c2 c3 c4 c5 c6 c7=>@SQ.rec (fun _=>R) (fun d0 d1 d2 d3=>k d0) c2) t
abbrev w8 (t:S) (v:V) (k:S->R):R:=@S.rec (fun _=>R) (fun c0 c1 c2 c3 c4 c5 c6 c7=>@SQ.rec (fun _=>R) (fun d0 d1 d2 d3=>k (.mk c0 c1 (.mk v d1 d2 d3) c3 c4 c5 c6 c7)) c2) t
abbrev g9 (t:S) (k:V->R):R:=@S.rec (fun _=>R) (fun c0 c1 c2 c3 c4 c5 c6 c7=>@SQ.rec (fun _=>R) (fun d0 d1 d2 d3=>k d1) c2) t
abbrev w9 (t:S) (v:V) (k:S->R):R:=@S.rec (fun _=>R) (fun c0 c1 c2 c3 c4 c5 c6 c7=>@SQ.rec (fun _=>R) (fun d0 d1 d2 d3=>k (.mk c0 c1 (.mk d0 v d2 d3) c3 c4 c5 c6 c7)) c2) t
abbrev Nf (t:S) (k:V->R):R:=@S.rec (fun _=>R) (fun c0 c1 c2 c3 c4 c5 c6 c7=>@SQ.rec (fun _=>R) (fun d0 d1 d2 d3=>k d2) c2) t
abbrev MF (t:S) (v:V) (k:S->R):R:=@S.rec (fun _=>R) (fun c0 c1 c2 c3 c4 c5 c6 c7=>@SQ.rec (fun _=>R) (fun d0 d1 d2 d3=>k (.mk c0 c1 (.mk d0 d1 v d3) c3 c4 c5 c6 c7)) c2) t
abbrev OD (t:S) (k:V->R):R:=@S.rec (fun _=>R) (fun c0 c1 c2 c3 c4 c5 c6 c7=>@SQ.rec (fun _=>R) (fun d0 d1 d2 d3=>k d3) c2) t
abbrev OB (t:S) (v:V) (k:S->R):R:=@S.rec (fun _=>R) (fun c0 c1 c2 c3 c4 c5 c6 c7=>@SQ.rec (fun _=>R) (fun d0 d1 d2 d3=>k (.mk c0 c1 (.mk d0 d1 d2 v) c3 c4 c5 c6 c7)) c2) t
abbrev Tb (t:S) (k:V->R):R:=@S.rec (fun _=>R) (fun c0 c1 c2 c3 c4 c5 c6 c7=>@SQ.rec (fun _=>R) (fun d0 d1 d2 d3=>k d0) c3) t
abbrev SN (t:S) (v:V) (k:S->R):R:=@S.rec (fun _=>R) (fun c0 c1 c2 c3 c4 c5 c6 c7=>@SQ.rec (fun _=>R) (fun d0 d1 d2 d3=>k (.mk c0 c1 c2 (.mk v d1 d2 d3) c4 c5 c6 c7)) c3) t
abbrev Vz (t:S) (k:V->R):R:=@S.rec (fun _=>R) (fun c0 c1 c2 c3 c4 c5 c6 c7=>@SQ.rec (fun _=>R) (fun d0 d1 d2 d3=>k d1) c3) t
abbrev VB (t:S) (v:V) (k:S->R):R:=@S.rec (fun _=>R) (fun c0 c1 c2 c3 c4 c5 c6 c7=>@SQ.rec (fun _=>R) (fun d0 d1 d2 d3=>k (.mk c0 c1 c2 (.mk d0 v d2 d3) c4 c5 c6 c7)) c3) t
abbrev Xm (t:S) (k:V->R):R:=@S.rec (fun _=>R) (fun c0 c1 c2 c3 c4 c5 c6 c7=>@SQ.rec (fun _=>R) (fun d0 d1 d2 d3=>k d2) c3) t
abbrev XO (t:S) (v:V) (k:S->R):R:=@S.rec (fun _=>R) (fun c0 c1 c2 c3 c4 c5 c6 c7=>@SQ.rec (fun _=>R) (fun d0 d1 d2 d3=>k (.mk c0 c1 c2 (.mk d0 d1 v d3) c4 c5 c6 c7)) c3) t
abbrev Vs (t:S) (k:V->R):R:=@S.rec (fun _=>R) (fun c0 c1 c2 c3 c4 c5 c6 c7=>@SQ.rec (fun _=>R) (fun d0 d1 d2 d3=>k d3) c3) t
abbrev Vv (t:S) (v:V) (k:S->R):R:=@S.rec (fun _=>R) (fun c0 c1 c2 c3 c4 c5 c6 c7=>@SQ.rec (fun _=>R) (fun d0 d1 d2 d3=>k (.mk c0 c1 c2 (.mk d0 d1 d2 v) c4 c5 c6 c7)) c3) t
abbrev g16 (t:S) (k:V->R):R:=@S.rec (fun _=>R) (fun c0 c1 c2 c3 c4 c5 c6 c7=>@SQ.rec (fun _=>R) (fun d0 d1 d2 d3=>k d0) c4) t
abbrev w16 (t:S) (v:V) (k:S->R):R:=@S.rec (fun _=>R) (fun c0 c1 c2 c3 c4 c5 c6 c7=>@SQ.rec (fun _=>R) (fun d0 d1 d2 d3=>k (.mk c0 c1 c2 c3 (.mk v d1 d2 d3) c5 c6 c7)) c4) t
abbrev YP (t:S) (k:V->R):R:=@S.rec (fun _=>R) (fun c0 c1 c2 c3 c4 c5 c6 c7=>@SQ.rec (fun _=>R) (fun d0 d1 d2 d3=>k d1) c4) t
abbrev w17 (t:S) (v:V) (k:S->R):R:=@S.rec (fun _=>R) (fun c0 c1 c2 c3 c4 c5 c6 c7=>@SQ.rec (fun _=>R) (fun d0 d1 d2 d3=>k (.mk c0 c1 c2 c3 (.mk d0 v d2 d3) c5 c6 c7)) c4) t
abbrev Xp (t:S) (k:V->R):R:=@S.rec (fun _=>R) (fun c0 c1 c2 c3 c4 c5 c6 c7=>@SQ.rec (fun _=>R) (fun d0 d1 d2 d3=>k d2) c4) t
abbrev Xn (t:S) (v:V) (k:S->R):R:=@S.rec (fun _=>R) (fun c0 c1 c2 c3 c4 c5 c6 c7=>@SQ.rec (fun _=>R) (fun d0 d1 d2 d3=>k (.mk c0 c1 c2 c3 (.mk d0 d1 v d3) c5 c6 c7)) c4) t
abbrev g19 (t:S) (k:V->R):R:=@S.rec (fun _=>R) (fun c0 c1 c2 c3 c4 c5 c6 c7=>@SQ.rec (fun _=>R) (fun d0 d1 d2 d3=>k d3) c4) t
abbrev w19 (t:S) (v:V) (k:S->R):R:=@S.rec (fun _=>R) (fun c0 c1 c2 c3 c4 c5 c6 c7=>@SQ.rec (fun _=>R) (fun d0 d1 d2 d3=>k (.mk c0 c1 c2 c3 (.mk d0 d1 d2 v) c5 c6 c7)) c4) t
abbrev g20 (t:S) (k:V->R):R:=@S.rec (fun _=>R) (fun c0 c1 c2 c3 c4 c5 c6 c7=>@SQ.rec (fun _=>R) (fun d0 d1 d2 d3=>k d0) c5) t
abbrev w20 (t:S) (v:V) (k:S->R):R:=@S.rec (fun _=>R) (fun c0 c1 c2 c3 c4 c5 c6 c7=>@SQ.rec (fun _=>R) (fun d0 d1 d2 d3=>k (.mk c0 c1 c2 c3 c4 (.mk v d1 d2 d3) c6 c7)) c5) t
abbrev g21 (t:S) (k:V->R):R:=@S.rec (fun _=>R) (fun c0 c1 c2 c3 c4 c5 c6 c7=>@SQ.rec (fun _=>R) (fun d0 d1 d2 d3=>k d1) c5) t
abbrev w21 (t:S) (v:V) (k:S->R):R:=@S.rec (fun _=>R) (fun c0 c1 c2 c3 c4 c5 c6 c7=>@SQ.rec (fun _=>R) (fun d0 d1 d2 d3=>k (.mk c0 c1 c2 c3 c4 (.mk d0 v d2 d3) c6 c7)) c5) t
abbrev g22 (t:S) (k:V->R):R:=@S.rec (fun _=>R) (fun c0 c1 c2 c3 c4 c5 c6 c7=>@SQ.rec (fun _=>R) (fun d0 d1 d2 d3=>k d2) c5) t
abbrev w22 (t:S) (v:V) (k:S->R):R:=@S.rec (fun _=>R) (fun c0 c1 c2 c3 c4 c5 c6 c7=>@SQ.rec (fun _=>R) (fun d0 d1 d2 d3=>k (.mk c0 c1 c2 c3 c4 (.mk d0 d1 v d3) c6 c7)) c5) t
section
variable {P:Program} {ρ:Env} {B:Nat}
def Ae (P:Program) (ρ:Env) (B:Nat) (f:FuncId) (o:D6):Prop:=∀ e,o=some e->M8 P ρ B f e
theorem Ae.no {f:FuncId}:Ae P ρ B f none:=fun e h=>by cases h
theorem Ae.fn {f:FuncId} {e:Ent} (h:Af P f e):Ae P ρ B f (some e):=fun e' h'=>by cases h'; exact .inl (.inl h)
theorem Ae.br {f:FuncId} {k:Nat} {en:List V->(S->R)->R} {bo:FL->S->Heap->K4->R} {re:S->Heap->K4->R} (h:Af P f (.code en bo re)):Ae P ρ B f (some (.br k en bo re)):=fun e' h'=>by cases h'; exact .inl (.inr ⟨k,en,bo,re,rfl,h⟩)
theorem Ae.brX {f:FuncId} {e:Ent} {k:Nat} (h:Af P f e) (he:∃ en bo re,e = .code en bo re):Ae P ρ B f (some (e.toBr k)):=by
 obtain ⟨en,bo,re,rfl⟩:=he
 exact Ae.br h
theorem Ae.pr {f:FuncId} {p:IG} (h:Hg P ρ B f p):Ae P ρ B f (some (.prim p)):=fun e' h'=>by cases h'; exact .inr (.inl ⟨p,rfl,h⟩)
def AQ (s:String):IG:=fun _ _ _=>.fail s
theorem Ae.noP {f:FuncId} (s:String):Ae P ρ B f (some (.prim (AQ s))):=Ae.pr fun args h n v h1 n1 hx=>by cases hx
theorem Ae.ap {f:FuncId} {its:List Nat} {rd:Rd} {A:ApC} (hA:ρ.ap f=some A) (h1:L6 P f=some A) (h2:Sv P A=some rd) (h3:∀ g∈its,Jr P g):Ae P ρ B f (some (.ap f its rd)):=fun e' h'=>by cases h'; exact .inr (.inr (.inl ⟨its,rd,A,rfl,hA,h1,h2,h3⟩))
theorem Ae.tr {f:FuncId} {p:IG} (h:SE P ρ B f p):Ae P ρ B f (some (.tree p)):=fun e' h'=>by cases h'; exact .inr (.inr (.inr ⟨p,rfl,h⟩))
def Cf (P:Program) (ρ:Env) (B:Nat) (base:Nat) (x:FA):Prop:=∀ d,Ae P ρ B (base+d.toN) (FA.sel d x)
def Jw (P:Program) (ρ:Env) (B:Nat) (base:Nat) (x:FB):Prop:=∀ d,Cf P ρ B (base+16*d.toN) (FB.sel d x)
theorem AS {base:Nat} {c0 c1 c2 c3 c4 c5 c6 c7 c8 c9 ca cb cc cd ce cf:D6} (h0:Ae P ρ B (base+0) c0) (h1:Ae P ρ B (base+1) c1) (h2:Ae P ρ B (base+2) c2) (h3:Ae P ρ B (base+3) c3) (h4:Ae P ρ B (base+4) c4) (h5:Ae P ρ B (base+5) c5) (h6:Ae P ρ B (base+6) c6) (h7:Ae P ρ B (base+7) c7) (h8:Ae P ρ B (base+8) c8) (h9:Ae P ρ B (base+9) c9) (h10:Ae P ρ B (base+10) ca) (h11:Ae P ρ B (base+11) cb) (h12:Ae P ρ B (base+12) cc) (h13:Ae P ρ B (base+13) cd) (h14:Ae P ρ B (base+14) ce) (h15:Ae P ρ B (base+15) cf):Cf P ρ B base (.mk c0 c1 c2 c3 c4 c5 c6 c7 c8 c9 ca cb cc cd ce cf):=fun d=>by
 cases d
 ·exact h0
 ·exact h1
 ·exact h2
 ·exact h3
 ·exact h4
 ·exact h5
 ·exact h6
 ·exact h7
 ·exact h8
 ·exact h9
 ·exact h10
 ·exact h11
 ·exact h12
 ·exact h13
 ·exact h14
 ·exact h15
theorem IR {base:Nat} {c0 c1 c2 c3 c4 c5 c6 c7 c8 c9 ca cb cc cd ce cf:FA} (h0:Cf P ρ B (base+16*0) c0) (h1:Cf P ρ B (base+16*1) c1) (h2:Cf P ρ B (base+16*2) c2) (h3:Cf P ρ B (base+16*3) c3) (h4:Cf P ρ B (base+16*4) c4) (h5:Cf P ρ B (base+16*5) c5) (h6:Cf P ρ B (base+16*6) c6) (h7:Cf P ρ B (base+16*7) c7) (h8:Cf P ρ B (base+16*8) c8) (h9:Cf P ρ B (base+16*9) c9) (h10:Cf P ρ B (base+16*10) ca) (h11:Cf P ρ B (base+16*11) cb) (h12:Cf P ρ B (base+16*12) cc) (h13:Cf P ρ B (base+16*13) cd) (h14:Cf P ρ B (base+16*14) ce) (h15:Cf P ρ B (base+16*15) cf):Jw P ρ B base (.mk c0 c1 c2 c3 c4 c5 c6 c7 c8 c9 ca cb cc cd ce cf):=fun d=>by
 cases d
 ·exact h0
 ·exact h1
 ·exact h2
 ·exact h3
 ·exact h4
 ·exact h5
 ·exact h6
 ·exact h7
 ·exact h8
 ·exact h9
 ·exact h10
 ·exact h11
 ·exact h12
 ·exact h13
 ·exact h14
 ·exact h15
def Ey:FA:=.mk none none none none none none none none none none none none none none none none
def Hp:FB:=.mk Ey Ey Ey Ey Ey Ey Ey Ey Ey Ey Ey Ey Ey Ey Ey Ey
theorem PN (d:D):FA.sel d Ey=none:=by cases d <;> rfl
theorem PJ (d:D):FB.sel d Hp=Ey:=by cases d <;> rfl
theorem BE {base:Nat}:Cf P ρ B base Ey:=fun d=>by rw [PN]; exact Ae.no
theorem C1 {base:Nat}:Jw P ρ B base Hp:=fun d=>by rw [PJ]; exact BE
theorem ofN_lt {x:Nat} {d:D} (h:D.ofN x=d) (hd:d ≠ .d15):x=d.toN:=by
 rcases Nat.lt_or_ge x 15 with hx | hx
 ·rw [←h,D.toN_ofN x (by omega)]
 ·exfalso
  obtain ⟨y,rfl⟩:∃ y,x=y+15:=⟨x - 15,by omega⟩
  exact hd h.symm
theorem RA {c0 c1 c2 c3 c4 c5 c6 c7 c8 c9 ca cb cc cd ce:FB} (h0:Jw P ρ B (256*0) c0) (h1:Jw P ρ B (256*1) c1) (h2:Jw P ρ B (256*2) c2) (h3:Jw P ρ B (256*3) c3) (h4:Jw P ρ B (256*4) c4) (h5:Jw P ρ B (256*5) c5) (h6:Jw P ρ B (256*6) c6) (h7:Jw P ρ B (256*7) c7) (h8:Jw P ρ B (256*8) c8) (h9:Jw P ρ B (256*9) c9) (h10:Jw P ρ B (256*10) ca) (h11:Jw P ρ B (256*11) cb) (h12:Jw P ρ B (256*12) cc) (h13:Jw P ρ B (256*13) cd) (h14:Jw P ρ B (256*14) ce):∀ f e,Jy (BA f) (.mk c0 c1 c2 c3 c4 c5 c6 c7 c8 c9 ca cb cc cd ce Hp)=some e->M8 P ρ B f e:=fun f e h=>by
 have hc:(D.ofN (f % 16)).toN=f % 16:=D.toN_ofN _ (by omega)
 have hb:(D.ofN (f / 16 % 16)).toN=f / 16 % 16:=D.toN_ofN _ (by omega)
 have key:∀ x:FB,Jw P ρ B (256*(f / 256)) x->FA.sel (D.ofN (f % 16)) (FB.sel (D.ofN (f / 16 % 16)) x)=some e->M8 P ρ B f e:=fun x hx hs=>by
  have:=hx (D.ofN (f / 16 % 16)) (D.ofN (f % 16)) e hs
  rw [hc,hb] at this
  have e1:256*(f / 256)+16*(f / 16 % 16)+f % 16=f:=by omega
  rw [e1] at this; exact this
 have h:FA.sel (D.ofN (f % 16)) (FB.sel (D.ofN (f / 16 % 16)) (FC.sel (D.ofN (f / 256)) (.mk c0 c1 c2 c3 c4 c5 c6 c7 c8 c9 ca cb cc cd ce Hp)))=some e:=h
 generalize hd:D.ofN (f / 256)=d at h
 cases d
 ·have:=ofN_lt hd (by intro h; cases h); rw [show D.toN .d0=0 from rfl] at this; exact key c0 (by rw [this]; exact h0) h
 ·have:=ofN_lt hd (by intro h; cases h); rw [show D.toN .d1=1 from rfl] at this; exact key c1 (by rw [this]; exact h1) h
 ·have:=ofN_lt hd (by intro h; cases h); rw [show D.toN .d2=2 from rfl] at this; exact key c2 (by rw [this]; exact h2) h
 ·have:=ofN_lt hd (by intro h; cases h); rw [show D.toN .d3=3 from rfl] at this; exact key c3 (by rw [this]; exact h3) h
 ·have:=ofN_lt hd (by intro h; cases h); rw [show D.toN .d4=4 from rfl] at this; exact key c4 (by rw [this]; exact h4) h
 ·have:=ofN_lt hd (by intro h; cases h); rw [show D.toN .d5=5 from rfl] at this; exact key c5 (by rw [this]; exact h5) h
 ·have:=ofN_lt hd (by intro h; cases h); rw [show D.toN .d6=6 from rfl] at this; exact key c6 (by rw [this]; exact h6) h
 ·have:=ofN_lt hd (by intro h; cases h); rw [show D.toN .d7=7 from rfl] at this; exact key c7 (by rw [this]; exact h7) h
 ·have:=ofN_lt hd (by intro h; cases h); rw [show D.toN .d8=8 from rfl] at this; exact key c8 (by rw [this]; exact h8) h
 ·have:=ofN_lt hd (by intro h; cases h); rw [show D.toN .d9=9 from rfl] at this; exact key c9 (by rw [this]; exact h9) h
 ·have:=ofN_lt hd (by intro h; cases h); rw [show D.toN .d10=10 from rfl] at this; exact key ca (by rw [this]; exact h10) h
 ·have:=ofN_lt hd (by intro h; cases h); rw [show D.toN .d11=11 from rfl] at this; exact key cb (by rw [this]; exact h11) h
 ·have:=ofN_lt hd (by intro h; cases h); rw [show D.toN .d12=12 from rfl] at this; exact key cc (by rw [this]; exact h12) h
 ·have:=ofN_lt hd (by intro h; cases h); rw [show D.toN .d13=13 from rfl] at this; exact key cd (by rw [this]; exact h13) h
 ·have:=ofN_lt hd (by intro h; cases h); rw [show D.toN .d14=14 from rfl] at this; exact key ce (by rw [this]; exact h14) h
 ·have h:FA.sel (D.ofN (f % 16)) (FB.sel (D.ofN (f / 16 % 16)) Hp)=some e:=h
  rw [PJ,PN] at h; cases h
def Gq (P:Program) (fs:List Nat):Env:={ v:=fun _=>.bool true,ap:=fun f=>@Bool.rec (fun _=>Option ApC) none (L6 P f) (fs.contains f) }
def MR (P:Program) (g:FuncId):Bool:=match P.funcs[g]? with
 | some fn=>fn.body.isSome && !(fn.name == "runtime.NumGoroutine")
 | none=>false
theorem OR {g:FuncId} (h:MR P g=true):Jr P g:=by
 unfold MR at h
 split at h
 ·rename_i fn hfn
  simp only [Bool.and_eq_true,Bool.not_eq_true'] at h
  obtain ⟨c,hc⟩:=Option.isSome_iff_exists.1 h.1
  exact ⟨fn,c,hfn,hc,h.2⟩
 ·cases h
def WB (P:Program) (f:FuncId):Option Rd:=(L6 P f).bind (Sv P)
theorem BP.mk {fs:List Nat} {f:FuncId} {its:List Nat} {rd:Rd} (hf:fs.contains f=true) (h:WB P f=some rd) (hb:its.all (MR P)=true):BP P (Gq P fs) f (.ap f its rd):=by
 unfold WB at h
 cases hA:L6 P f with
 | none=>rw [hA] at h; cases h
 | some A =>
  rw [hA] at h
  exact ⟨its,rd,A,rfl,by show @Bool.rec (fun _=>Option ApC) none (L6 P f) (fs.contains f)=_; rw [hf]; exact hA,hA,h,fun g hg=>OR (List.all_eq_true.1 hb g hg)⟩
theorem Ae.apE {f:FuncId} {e:Ent} (h:BP P ρ f e):Ae P ρ B f (some e):=fun e' h'=>by cases h'; exact .inr (.inr (.inl h))
theorem H3.mk {fs:List Nat} {T:FC} (h:∀ f e,Jy (BA f) T=some e->M8 P (Gq P fs) B f e) (ha:∀ f∈fs,∃ e,Jy (BA f) T=some e∧BP P (Gq P fs) f e):H3 P (Gq P fs) B T:=by
 refine ⟨h,fun f A hA=>?_⟩
 have hA:@Bool.rec (fun _=>Option ApC) none (L6 P f) (fs.contains f)=some A:=hA
 cases hc:fs.contains f with
 | false=>rw [hc] at hA; cases hA
 | true=>exact ha f (List.contains_iff_mem.1 hc)
theorem SX {Q:Nat->Prop}:∀ f∈([]:List Nat),Q f:=fun f h=>by cases h
theorem DZ {Q:Nat->Prop} {x:Nat} {l:List Nat} (h:Q x) (k:∀ f∈l,Q f):∀ f∈x::l,Q f:=fun f hf=>by
 rcases List.mem_cons.1 hf with rfl | hf
 ·exact h
 ·exact k f hf
end
end Go.Ev

namespace Go.Ev
set_option linter.unusedVariables false
open Go.RowKit
def Kt:IG:=fun args h n =>
 G9 args fun v l=>OC l (Dz v (.fail "") fun p=>Ur p h fun es bs c=>Hw h n (.m es bs c) fun h n'=>.rv (.map n) h n')
def Qw (P:Program) (f:FuncId):Option FuncId :=
 match P.funcs[f]? with
 | some fn=>match fn.body with
  | some (.seq (.region _ r0 false) (.seq (.seq (.region _ r1 false) (.cond (.tmp 4) _ .skip)) (.seq (.region _ r3 false) .ret))) =>
   match r0.toList,r1.toList,r3.toList,fn.results.toList with
   | [o1],[o2,o3],[o4,o5,o6,o7,o8],[.tmp s2]=>match o1.op,o2.op,o3.op,o4.op,o5.op,o6.op,o7.op,o8.op with
    | .assign (.const c1),.move (.tmp s0),.binOp .eql t3 (.tmp s3) (.const (.map none)) _,.move (.tmp s0'),.makeInterface t5 (.tmp s5),.call ct,.typeAssert (.tmp s7) _ t7 false,.assign (.tmp s8) =>
     match ct.callee,ct.args.toList,P.underlying t5 with
     | .value (.func g),[.tmp s6],some (.map _ _) =>
      if (fn.name == "runtime.NumGoroutine")=false∧fn.ntmps=9∧s2=2∧s0=0∧s0'=0∧s3=3∧s5=5∧s6=6∧s7=7∧s8=8∧t3=t5∧t7=t5∧o1.dst=some 2∧o2.dst=some 3∧o3.dst=some 4∧o4.dst=some 5∧o5.dst=some 6∧o6.dst=some 7∧o7.dst=some 8∧o8.dst=some 2 ∧
       o1.guard=none∧o2.guard=none∧o3.guard=none∧o4.guard=none∧o5.guard=none∧o6.guard=none∧o7.guard=none∧o8.guard=none then some g else none
     | _,_,_=>none
    | _,_,_,_,_,_,_,_=>none
   | _,_,_,_=>none
  | _=>none
 | none=>none
section
variable {P:Program} {ρ:Env} {B:Nat}
theorem Oq (w:World) (t k e:TypeId) (p:Option Nat) (h:P.underlying t=some (.map k e)):(binOp .eql t (.map p) (.map none)).run P w = .ok (.bool p.isNone) w:=by
 have key:∀ d,(Op.equalIn (d+1) t (.map p) (.map none)).run P w = .ok p.isNone w:=fun d=>by cases p <;> simp [Op.equalIn,run_underlying h]
 simp only [binOp]
 simp [show Op.equal t (.map p) (.map none)=Op.equalIn (9999+1) t (.map p) (.map none) from rfl,key 9999]
theorem JJ (w:World) (t xT k e:TypeId) (v:Value) (h:P.underlying t=some (.map k e)):(Instr.typeAssert (.iface t v) xT t false).run P w = .ok v w:=by
 simp [Instr.typeAssert,run_underlying h,go_sem,Result.andThen]
theorem Rt {w:World} {r:Nat} {es:Array MapEntry} {c:Nat} (t:TypeId) (hb:w.heap[r]? = some (.map es c)) :
  (Extern.MapsClone.clone #[.iface t (.map (some r))]).run P w = .ok (.iface t (.map (some w.heap.size))) (w.alloc (.map es c)):=by
 have e:Extern.MapsClone.clone #[.iface t (.map (some r))]=(getObj r >>= fun o=>match o with
   | .map entries clock=>(newObj (.map entries clock) >>= fun n=>pure (.iface t (.map (some n))))
   | _=>stuck "maps.clone: a map expected"):=rfl
 rw [e]
 have hg:(getObj r).run P w = .ok (.map es c) w:=by simp [getObj,Sem.run,hb]
 simp [hg,Result.andThen,go_sem]
theorem NS {f g:FuncId} (hc:Qw P f=some g) (b:Bare P g Extern.MapsClone.clone):Hg P ρ B f Kt:=by
 intro args h n v h1 n1 hx φ w xs gm hr
 have hg:(Kt args h n).good:=by rw [hx]; trivial
 unfold Kt at hx hg
 obtain ⟨m,l,rfl,q1⟩:=Eu hg
 rw [q1] at hx hg
 obtain ⟨rfl,q2⟩:=I5 hg
 rw [q2] at hx hg
 rcases Dk hg with ⟨_,q3⟩ | ⟨p,rfl,q3⟩
 ·rw [q3] at hg; exact hg.elim
 rw [q3,KH] at hx hg
 obtain ⟨es,bs,c,hp,q4⟩:=E3 hg
 rw [q4,I7] at hx hg
 obtain ⟨n',hn,q5⟩:=Bq hg
 rw [q5] at hx
 cases hx
 obtain ⟨X,l0,hX,r0,hl0⟩:=AJ.1 hr
 have hl0:=AT.1 hl0
 subst hl0
 obtain ⟨bk,s,tot,hφ,rfl⟩:=F8 r0
 obtain ⟨ents,k1,k2,k3⟩:=gm.obj p _ bk s tot hp hφ
 have hxe:xs = #[.map (some bk)]:=by cases xs; simp at hX; rw [hX]
 subst hxe
 unfold Qw at hc
 split at hc
 next fn hfn =>
  split at hc
  next i0 r0 i1 r1 cthen i3 r3 hbody =>
   split at hc
   next o1 o2 o3 o4 o5 o6 o7 o8 s2 e0 e1 e3 ers =>
    split at hc
    next c1 s0 t3 s3 t3' s0' t5 s5 ct s7 t7' t7 s8 p1 p2 p3 p4 p5 p6 p7 p8 =>
     split at hc
     next g' s6 kt et hcal hargs hu =>
      split at hc
      next hc' =>
       cases hc
       obtain ⟨hname,hnt,rfl,rfl,rfl,rfl,rfl,rfl,rfl,rfl,rfl,rfl,d1,d2,d3,d4,d5,d6,d7,d8,g1,g2,g3,g4,g5,g6,g7,g8⟩:=hc'
       have hres:fn.results = #[.tmp 2]:=by cases hh:fn.results with | mk l=>rw [hh] at ers; simp at ers; rw [ers]
       have hcargs:ct.args = #[.tmp 6]:=by cases hh:ct.args with | mk l=>rw [hh] at hargs; simp at hargs; rw [hargs]
       have e1':(callFunc f #[.map (some bk)]).run P w = .ok (.enter f #[.map (some bk)]) w:=by
        have hname':fn.name ≠ "runtime.NumGoroutine":=by simpa using hname
        simp [callFunc,hfn,hname',hbody]
       intro o a K Q hK
       rw [e1']
       refine (callsIn_wide (n:=0)).1 (callsIn_of_wp_marks hfn hbody trivial ?_ rfl)
       rw [hnt]
       simp only [List.size_toArray,List.length_cons,List.length_nil,Nat.reduceAdd,Nat.reduceSub,Array.replicate_succ,Array.replicate_zero,List.push_toArray,List.append_toArray,List.nil_append,List.cons_append]
       refine wpIn_seq (wpIn_region_list ?_)
       rw [e0]
       refine wpListIn_plain g1 fun K1 hK1=>BK (x:=c1) (w':=w) (by simp [execOp,p1,Act.eval]) (hK1 _ _ ?_)
       refine wpListIn_nil ?_
       refine wpIn_seq (wpIn_seq (wpIn_region_list ?_))
       rw [e1,d1]
       refine wpListIn_plain g2 fun K2 hK2=>BK (x:=.map (some bk)) (w':=w) (by simp [execOp,p2,Act.eval,Act.put]) (hK2 _ _ ?_)
       rw [d2]
       refine wpListIn_plain g3 fun K3 hK3=>BK (x:=.bool false) (w':=w) (by simp [execOp,p3,Act.eval,Act.put,eqGuard,Oq w _ _ _ _ hu]) (hK3 _ _ ?_)
       rw [d3]
       refine wpListIn_nil (wpIn_cond_false (by simp [Act.eval,Act.put]) (wpIn_skip ?_))
       refine wpIn_seq (wpIn_region_list ?_)
       rw [e3]
       refine wpListIn_plain g4 fun K4 hK4=>BK (x:=.map (some bk)) (w':=w) (by simp [execOp,p4,Act.eval,Act.put]) (hK4 _ _ ?_)
       rw [d4]
       refine wpListIn_plain g5 fun K5 hK5=>BK (x:=.iface t7 (.map (some bk))) (w':=w) (by simp [execOp,p5,Act.eval,Act.put,Instr.makeInterface,run_underlying hu]) (hK5 _ _ ?_)
       rw [d5]
       refine wpListIn_plain g6 fun K6 hK6=>BK (x:=.iface t7 (.map (some w.heap.size))) (w':=w.alloc (.map ents c)) (by
        simp only [execOp,p6,resolve,hcal,hcargs,Deferred.ofValue,Act.eval,Act.put]
        have:=b.run (Rt (P:=P) t7 k1)
        simp [invoke,Act.eval,this]) (hK6 _ _ ?_)
       rw [d6]
       refine wpListIn_plain g7 fun K7 hK7=>BK (x:=.map (some w.heap.size)) (w':=w.alloc (.map ents c)) (by simp [execOp,p7,Act.eval,Act.put,JJ _ _ _ _ _ _ hu]) (hK7 _ _ ?_)
       rw [d7]
       refine wpListIn_plain g8 fun K8 hK8=>BK (x:=.map (some w.heap.size)) (w':=w.alloc (.map ents c)) (by simp [execOp,p8,Act.eval,Act.put]) (hK8 _ _ ?_)
       rw [d8]
       refine wpListIn_nil (wpIn_ret ?_)
       show LeavesInM Fence.wide 0 P fn _ _ [] .returning (w.alloc (.map ents c))
       unfold LeavesInM LeavesIn
       refine ⟨.map (some w.heap.size),by simp [results,hres,Act.put],?_⟩
       refine hK _ _ ⟨E7 φ n (w.heap.size,0,0),Fr.alloc gm.at_n (by omega) (Nat.le_refl _) (by omega) _ _ 0,gm.alloc gm.at_n (by omega) (by omega) (.m es bs c) rfl _ 0 fun φ' hle w' hw'=>⟨ents,hw',Ll hle k2,k3⟩,?_⟩
       simp only [AL]
       exact ⟨w.heap.size,0,0,BT _ _ _,rfl⟩
      next=>cases hc
     next=>cases hc
    next=>cases hc
   next=>cases hc
  next=>cases hc
 next=>cases hc
end
end Go.Ev

namespace Go.Ev
set_option linter.unusedVariables false
theorem HA.setS_sel (d:D) (p:HA):HA.setS d p (HA.sel d p)=p:=by cases d <;> cases p <;> rfl
theorem HB.setS_sel (d:D) (p:HB):HB.setS d p (HB.sel d p)=p:=by cases d <;> cases p <;> rfl
theorem HC.setS_sel (d:D) (p:HC):HC.setS d p (HC.sel d p)=p:=by cases d <;> cases p <;> rfl
theorem Heap.setS_sel (d:D) (p:Heap):Heap.setS d p (Heap.sel d p)=p:=by cases d <;> cases p <;> rfl
theorem Pb (p:K4) (h:Heap):B6 p h (AM p h)=h:=by
 cases p
 simp only [AM,B6,Fy,Heap.setK_eq,HC.setK_eq,HB.setK_eq,HA.setK_eq,Heap.selK_eq,HC.selK_eq,HB.selK_eq,id,HA.setS_sel,HB.setS_sel,HC.setS_sel,Heap.setS_sel]
def V3 (r:R) (κ:S->Heap->K4->R):R :=
 @R.rec (fun _=>R) (fun e t h n=>@Ex.rec (fun _=>R) (κ t h n) (fun id=>.ok (.exit id) t h n) (.ok .ret t h n) e) (C2 "") (fun w=>.fail w) (fun _ _ a b=>.both a b) r
abbrev O3:=S->Heap->(Nat->S->R)->R->R
def Gt (body:S->Heap->K4->R) (ih:Nat->S->Heap->K4->R) (k:Nat) (t:S) (h:Heap) (n:K4):R :=
 @Nat.rec (fun _=>R) (.fail "") (fun k _=>V3 (body t h n) (ih k)) k
def M9 (body:S->Heap->K4->R) (J:O3) (r:Nat):Nat->S->Heap->K4->R :=
 @Nat.rec (fun _=>Nat->S->Heap->K4->R) (fun k=>Et body k)
  (fun _ ih k t h n=>J t h (fun j t'=>br (Nat.ble j k) (Ak (Nat.sub k j) fun k=>Gt body ih k t' h n) (Et body k t h n)) (Gt body ih k t h n)) r
def KC (body:S->Heap->K4->R) (J:O3):S->Heap->K4->R:=M9 body J 1000000 1000000000
def KL (body:S->Heap->K4->R) (J:O3):Prop :=
 ∀ t h κ κ0,J t h κ κ0=κ0 ∨ ∃ j t',J t h κ κ0=κ j t' ∧ ∀ k n,Et body (j+k) t h n=Et body k t' h n
theorem Do (body:S->Heap->K4->R):∀ (k:Nat) (t:S) (h:Heap) (n:K4),Et body k t h n=Gt body (Et body) k t h n
 | 0,_,_,_=>rfl
 | _+1,_,_,_=>rfl
theorem TP {body:S->Heap->K4->R} {J:O3} (H:KL body J):∀ (r k:Nat),M9 body J r k=Et body k:=by
 intro r
 induction r with
 | zero=>exact fun _=>rfl
 | succ r ih =>
  intro k
  funext t h n
  have e0:M9 body J (r+1) k t h n=J t h (fun j t'=>br (Nat.ble j k) (Ak (Nat.sub k j) fun k=>Gt body (M9 body J r) k t' h n) (Et body k t h n)) (Gt body (M9 body J r) k t h n):=rfl
  have ih:M9 body J r=Et body:=funext ih
  rw [e0,ih]
  rcases H t h (fun j t'=>br (Nat.ble j k) (Ak (Nat.sub k j) fun k=>Gt body (Et body) k t' h n) (Et body k t h n)) (Gt body (Et body) k t h n) with e | ⟨j,t',e,hj⟩
  ·rw [e,←Do]
  ·rw [e]
   cases hb:Nat.ble j k with
   | false=>rfl
   | true =>
    have hb:=Nat.le_of_ble_eq_true hb
    show Ak (Nat.sub k j) (fun k=>Gt body (Et body) k t' h n)=_
    rw [Ai,←Do,show Nat.sub k j=k - j from rfl,←hj (k - j) n,show j+(k - j)=k by omega]
theorem Is {body:S->Heap->K4->R} {J:O3} (H:KL body J):Aw body=KC body J:=(TP H 1000000 1000000000).symm
def Dh:S->Heap->K4->R:=fun t h n=>g7 t fun z20=>g6 t fun z21=>Am z20 z21 fun z22=>Al z22 (Ac 2 (g5 t fun z23=>A8 z23 fun z24=>A7 2 z24 fun z25=>Aa z25 h fun z26=>g2 t fun z27=>Ag z27 z20 fun z28=>CQ z28 (.int .i64 64) fun z29=>ER (.sc .i) z26 z29 (.bool true) h fun h=>.ok .nrm t h n) fun t h n=>g7 t fun z2a=>Ag z2a (.int .i64 1) fun z2b=>w7 t z2b fun t=>.ok .nrm t h n)<|.ok (.exit 1) t h n
def KQ (v:V) (κ0:R) (κ:Nat->R):R :=
 @V.rec (fun _=>R) (fun _=>Unit) (fun k r=>br (Bn k .i64) (κ r) κ0) (fun _=>κ0) (fun _ _=>κ0) (fun _ _ _ _ _ _=>κ0) (fun _ _=>κ0) (fun _ _=>κ0) (fun _=>κ0) (fun _=>κ0) (fun _ _ _=>κ0) (fun _ _=>κ0) (fun _=>κ0) () (fun _ _ _ _=>()) v
def Tr (v:V) (κ0:R) (κ:K4->Nat->R):R :=
 @V.rec (fun _=>R) (fun _=>Unit) (fun _ _=>κ0) (fun _=>κ0) (fun p o=>κ p o) (fun _ _ _ _ _ _=>κ0) (fun _ _=>κ0) (fun _ _=>κ0) (fun _=>κ0) (fun _=>κ0) (fun _ _ _=>κ0) (fun _ _=>κ0) (fun _=>κ0) () (fun _ _ _ _=>()) v
def TJ (v:V) (κ0:R) (κ:K4->R):R :=
 @V.rec (fun _=>R) (fun _=>Unit) (fun _ _=>κ0) (fun _=>κ0) (fun _ _=>κ0) (fun _ _ _ _ _ _=>κ0) (fun _ _=>κ0) (fun _ _=>κ0) (fun _=>κ0) (fun p=>κ p) (fun _ _ _=>κ0) (fun _ _=>κ0) (fun _=>κ0) () (fun _ _ _ _=>()) v
def Km (v:V):Bool :=
 @V.rec (fun _=>Bool) (fun _=>Unit) (fun _ _=>false) (fun b=>b) (fun _ _=>false) (fun _ _ _ _ _ _=>false) (fun _ _=>false) (fun _ _=>false) (fun _=>false) (fun _=>false) (fun _ _ _=>false) (fun _ _=>false) (fun _=>false) () (fun _ _ _ _=>()) v
def V6 (m:Nat):List V->R->(V->R)->R :=
 @Nat.rec (fun _=>List V->R->(V->R)->R) (fun xs κ0 k=>@List.rec V (fun _=>R) κ0 (fun x _ _=>k x) xs)
  (fun _ ih xs κ0 k=>@List.rec V (fun _=>R) κ0 (fun _ ys _=>ih ys κ0 k) xs) m
def Qj (o:Ch) (i:Nat) (κ0:R) (κ:V->R):R :=
 @Option.rec Ob (fun _=>R) κ0 (fun o=>@Ob.rec (fun _=>R) (fun cs _ _=>@Cs.rec (fun _=>R) (fun xs=>V6 i xs κ0 κ) (fun _ _=>κ0) cs) (fun _ _ _=>κ0) (fun _ _ _ _=>κ0) κ0 (fun _ _=>κ0) o) o
def Q1 (o:Ch) (κ0:R) (κ:List (V×V)->List Nat->R):R :=
 @Option.rec Ob (fun _=>R) κ0 (fun o=>@Ob.rec (fun _=>R) (fun _ _ _=>κ0) (fun es bs _=>κ es bs) (fun _ _ _ _=>κ0) κ0 (fun _ _=>κ0) o) o
def NK (k:Nat) (es:List (V×V)):Bool :=
 @List.rec (V×V) (fun _=>Bool) false (fun e _ ih=>@Prod.rec V V (fun _=>Bool) (fun a b=>@V.rec (fun _=>Bool) (fun _=>Unit) (fun kd r=>br (Bn kd .i64) (br (Nat.beq k r) (Km b) ih) false) (fun _=>false) (fun _ _=>false) (fun _ _ _ _ _ _=>false) (fun _ _=>false) (fun _ _=>false) (fun _=>false) (fun _=>false) (fun _ _ _=>false) (fun _ _=>false) (fun _=>false) () (fun _ _ _ _=>()) a) e) es
def Pd:O3:=fun t h κ κ0=>g7 t fun i=>g6 t fun m=>g2 t fun a=>g5 t fun x =>
 KQ i κ0 fun i0=>KQ m κ0 fun m0=>KQ a κ0 fun a0=>Tr x κ0 fun p off=>Br p h fun o=>Qj o (Nat.add off 2) κ0 fun u=>TJ u κ0 fun q=>Br q h fun o=>Q1 o κ0 fun es bs =>
  br (Nat.ble m0 4611686018427387904) (br (Nat.ble a0 4611686018427387904) (br (Nat.ble i0 m0) (br (Hl es bs) (Ak (Nat.div (Nat.add a0 i0) 64) fun k=>br (NK k es)
   (Ak (Nat.sub m0 i0) fun j1=>Ak (Nat.sub (Nat.mul 64 (Nat.succ k)) (Nat.add a0 i0)) fun j2=>br (Nat.ble j1 j2) (Ak (Nat.add i0 j1) fun i=>w7 t (.int .i64 i) fun t=>κ j1 t) (Ak (Nat.add i0 j2) fun i=>w7 t (.int .i64 i) fun t=>κ j2 t))
   κ0) κ0) κ0) κ0) κ0
theorem RH (v:V) (κ0:R) (κ:Nat->R):KQ v κ0 κ=κ0 ∨ ∃ r,v = .int .i64 r∧KQ v κ0 κ=κ r:=by
 cases v with
 | int k r =>
  show br (Bn k .i64) (κ r) κ0=κ0 ∨ ∃ r',V.int k r = .int .i64 r'∧br (Bn k .i64) (κ r) κ0=κ r'
  cases hb:Bn k .i64 with
  | false=>exact .inl rfl
  | true=>exact .inr ⟨r,by rw [Bi.1 hb],rfl⟩
 | _=>exact .inl rfl
theorem SH (v:V) (κ0:R) (κ:K4->Nat->R):Tr v κ0 κ=κ0 ∨ ∃ p o,v = .ptr p o∧Tr v κ0 κ=κ p o:=by
 cases v with
 | ptr p o=>exact .inr ⟨p,o,rfl,rfl⟩
 | _=>exact .inl rfl
theorem Sa (v:V) (κ0:R) (κ:K4->R):TJ v κ0 κ=κ0 ∨ ∃ p,v = .map p∧TJ v κ0 κ=κ p:=by
 cases v with
 | map p=>exact .inr ⟨p,rfl,rfl⟩
 | _=>exact .inl rfl
theorem Oy:∀ (m:Nat) (xs:List V) (κ0:R) (κ:V->R),V6 m xs κ0 κ=κ0 ∨ ∃ v,xs[m]? = some v∧V6 m xs κ0 κ=κ v
 | 0,[],_,_=>.inl rfl
 | 0,x::_,_,_=>.inr ⟨x,rfl,rfl⟩
 | m+1,[],_,_=>.inl rfl
 | m+1,x::xs,κ0,κ=>Oy m xs κ0 κ
theorem Mg:∀ {m:Nat} {xs:List V} {v:V} {κ:V->R},xs[m]? = some v->Ea m xs κ=κ v
 | 0,[],_,_,h=>by cases h
 | 0,x::_,_,_,h=>by cases h; rfl
 | m+1,[],_,_,h=>by cases h
 | m+1,x::xs,v,κ,h=>Mg (m:=m) (xs:=xs) h
theorem QV (o:Ch) (i:Nat) (κ0:R) (κ:V->R):Qj o i κ0 κ=κ0 ∨ ∃ xs sup prev v,o=some (.c (.l xs) sup prev)∧xs[i]? = some v∧Qj o i κ0 κ=κ v:=by
 cases o with
 | none=>exact .inl rfl
 | some o=>cases o with
  | c cs sup prev=>cases cs with
   | l xs =>
    rcases Oy i xs κ0 κ with e | ⟨v,h,e⟩
    ·exact .inl e
    ·exact .inr ⟨xs,sup,prev,v,rfl,h,e⟩
   | b _ _=>exact .inl rfl
  | _=>exact .inl rfl
theorem Rv (o:Ch) (κ0:R) (κ:List (V×V)->List Nat->R):Q1 o κ0 κ=κ0 ∨ ∃ es bs c,o=some (.m es bs c)∧Q1 o κ0 κ=κ es bs:=by
 cases o with
 | none=>exact .inl rfl
 | some o=>cases o with
  | m es bs c=>exact .inr ⟨es,bs,c,rfl,rfl⟩
  | _=>exact .inl rfl
theorem OL {v:V} (h:Km v=true):v = .bool true:=by
 cases v with
 | bool b=>rw [show b=true from h]
 | _=>cases h
theorem Qm {k:Nat}:∀ {es:List (V×V)} {κ:List (V×V)->R},NK k es=true->Hf (.sc .i) (.int .i64 k) (.bool true) es κ=κ es
 | [],κ,h=>by cases h
 | (a,b)::es,κ,h=>by
  cases a with
  | int kd r =>
   have h:br (Bn kd .i64) (br (Nat.beq k r) (Km b) (NK k es)) false=true:=h
   cases hk:Bn kd .i64 with
   | false=>rw [hk] at h; cases h
   | true =>
    have hkd:=Bi.1 hk
    subst hkd
    have hx:br (Nat.beq k r) (Km b) (NK k es)=true:=h
    have e0:Hf (.sc .i) (.int .i64 k) (.bool true) ((.int .i64 r,b)::es) κ=CH (Nat.beq k r) fun q=>br q (κ ((.int .i64 k,.bool true)::es)) (Hf (.sc .i) (.int .i64 k) (.bool true) es fun l=>κ ((.int .i64 r,b)::l)):=rfl
    rw [e0,C5]
    cases hb:Nat.beq k r with
    | true =>
     rw [hb] at hx
     rw [OL (show Km b=true from hx),Nat.eq_of_beq_eq_true hb]; rfl
    | false =>
     rw [hb] at hx
     exact Qm (κ:=fun l=>κ ((.int .i64 r,b)::l)) (show NK k es=true from hx)
  | _=>cases h
theorem PR {a b:Nat} {κ:V->R} (h:a<b) (hb:b≤4611686018427387904):Am (.int .i64 a) (.int .i64 b) κ=κ (.bool true):=by
 have e0:Am (.int .i64 a) (.int .i64 b) κ=CH (br (Nat.ble 9223372036854775808 a) (br (Nat.ble 9223372036854775808 b) (Nat.ble (Nat.succ a) b) true) (br (Nat.ble 9223372036854775808 b) false (Nat.ble (Nat.succ a) b))) fun r=>κ (.bool r):=rfl
 have h1:Nat.ble 9223372036854775808 a=false:=Bool.eq_false_iff.2 fun h=>by have:=Nat.le_of_ble_eq_true h; omega
 have h2:Nat.ble 9223372036854775808 b=false:=Bool.eq_false_iff.2 fun h=>by have:=Nat.le_of_ble_eq_true h; omega
 have h3:Nat.ble (Nat.succ a) b=true:=Nat.ble_eq_true_of_le h
 rw [e0,C5,h1,h2,h3]; rfl
theorem JL {a b:Nat} {κ:V->R} (h:a+b<18446744073709551616):Ag (.int .i64 a) (.int .i64 b) κ=κ (.int .i64 (a+b)):=by
 have e0:Ag (.int .i64 a) (.int .i64 b) κ=Ak (Nat.mod (Nat.add a b) 18446744073709551616) fun r=>κ (.int .i64 r):=rfl
 rw [e0,Ai,show Nat.mod (Nat.add a b) 18446744073709551616=a+b from Nat.mod_eq_of_lt h]
theorem V5 {a:Nat} {κ:V->R} (h:a<9223372036854775808):CQ (.int .i64 a) (.int .i64 64) κ=κ (.int .i64 (a / 64)):=by
 have e0:CQ (.int .i64 a) (.int .i64 64) κ=br (Nat.ble (Nat.succ a) 9223372036854775808) (Ak (Nat.div a 64) fun r=>κ (.int .i64 r)) (.fail ""):=rfl
 rw [e0,show Nat.ble (Nat.succ a) 9223372036854775808=true from Nat.ble_eq_true_of_le h]
 show Ak (Nat.div a 64) (fun r=>κ (V.int .i64 r))=κ (V.int .i64 (a / 64))
 rw [Ai]; rfl
theorem FT {id:Nat} {t:S} {h:Heap} {n:K4} {κ:S->Heap->K4->R}:Ac id (.ok .nrm t h n) κ=κ t h n:=rfl
theorem Xd {p:K4} {off:Nat} {h:Heap} {xs:List V} {sup:Bool} {prev:Option K4} {v:V} {κ:V->R} (hp:AM p h=some (.c (.l xs) sup prev)) (hv:xs[off]? = some v):Aa (.ptr p off) h κ=κ v:=by
 show PE p h (fun cs _ _=>FG cs off κ)=_
 rw [Gy]
 have e:(It p h fun cs _ _=>FG cs off κ)=@Option.rec Ob (fun _=>R) (.fail "") (fun o=>@Ob.rec (fun _=>R) (fun cs _ _=>FG cs off κ) (C2 "") (FF "") (.fail "") (AV "") o) (AM p h):=Ds _ _ _
 rw [e,hp]
 exact Mg hv
theorem X5 {q:K4} {h:Heap} {es:List (V×V)} {bs:List Nat} {c k:Nat} {κ:Heap->R} (hq:AM q h=some (.m es bs c)) (hs:Hl es bs=true) (hh:NK k es=true):ER (.sc .i) (.map q) (.int .i64 k) (.bool true) h κ=κ h:=by
 show T4 q h (fun es bs c k'=>Hf (.sc .i) (.int .i64 k) (.bool true) es fun es=>Va es bs c fun bs c=>k' es bs c) κ=κ h
 rw [Qu]
 have e:∀ F,OE q h F=@Option.rec Ob (fun _=>R) (.fail "") (fun o=>@Ob.rec (fun _=>R) (C2 "") F (FF "") (.fail "") (AV "") o) (AM q h):=fun F=>Ds _ _ _
 rw [e,hq]
 show Hf (.sc .i) (.int .i64 k) (.bool true) es (fun es'=>Va es' bs c fun bs c=>Fy q h (some (.m es' bs c)) κ)=κ h
 rw [Qm hh]
 unfold Va
 rw [hs]
 show Fy q h (some (.m es bs c)) κ=κ h
 rw [BB,←hq,Pb]
theorem Ni {d0 d1 d3 d4:V} {c2 c3 c4 c5 c6 c7:SQ} {h:Heap} {n p q:K4} {off i0 m0 a0 c:Nat} {xs:List V} {sup:Bool} {prev:Option K4} {es:List (V×V)} {bs:List Nat}
  (hp:AM p h=some (.c (.l xs) sup prev)) (hv:xs[off+2]? = some (.map q)) (hq:AM q h=some (.m es bs c)) (hs:Hl es bs=true) (hm:m0≤4611686018427387904) (ha:a0≤4611686018427387904) (hi:i0<m0) (hh:NK ((a0+i0) / 64) es=true) :
  Dh (.mk (.mk d0 d1 (.int .i64 a0) d3) (.mk d4 (.ptr p off) (.int .i64 m0) (.int .i64 i0)) c2 c3 c4 c5 c6 c7) h n = .ok .nrm (.mk (.mk d0 d1 (.int .i64 a0) d3) (.mk d4 (.ptr p off) (.int .i64 m0) (.int .i64 (i0+1))) c2 c3 c4 c5 c6 c7) h n:=by
 have e1:∀ κ:V->R,A8 (.ptr p off) κ=κ (.ptr p off):=fun κ=>rfl
 have e2:∀ κ:V->R,A7 2 (.ptr p off) κ=κ (.ptr p (off+2)):=fun κ=>by
  show Ak (Nat.add off 2) (fun o=>κ (.ptr p o))=_
  rw [Ai]
 unfold Dh
 show Am (.int .i64 i0) (.int .i64 m0) _=_
 rw [PR hi hm]
 show Ac 2 (A8 (.ptr p off) _) _=_
 rw [e1,e2,Xd hp hv]
 show Ac 2 (Ag (.int .i64 a0) (.int .i64 i0) _) _=_
 rw [JL (by omega),V5 (by omega),X5 hq hs hh,FT]
 show Ag (.int .i64 i0) (.int .i64 1) _=_
 rw [JL (by omega)]
theorem HN {d0 d1 d3 d4:V} {c2 c3 c4 c5 c6 c7:SQ} {h:Heap} {n p q:K4} {off m0 a0 c k:Nat} {xs:List V} {sup:Bool} {prev:Option K4} {es:List (V×V)} {bs:List Nat}
  (hp:AM p h=some (.c (.l xs) sup prev)) (hv:xs[off+2]? = some (.map q)) (hq:AM q h=some (.m es bs c)) (hs:Hl es bs=true) (hm:m0≤4611686018427387904) (ha:a0≤4611686018427387904) (hh:NK k es=true) :
  ∀ (j i0:Nat),i0+j≤m0->(∀ r,r<j->(a0+(i0+r)) / 64=k)->∀ K,Et Dh (j+K) (.mk (.mk d0 d1 (.int .i64 a0) d3) (.mk d4 (.ptr p off) (.int .i64 m0) (.int .i64 i0)) c2 c3 c4 c5 c6 c7) h n
   = Et Dh K (.mk (.mk d0 d1 (.int .i64 a0) d3) (.mk d4 (.ptr p off) (.int .i64 m0) (.int .i64 (i0+j))) c2 c3 c4 c5 c6 c7) h n
 | 0,i0,_,_,K=>by rw [Nat.zero_add]; rfl
 | j+1,i0,hj,hr,K=>by
  have h0:=hr 0 (by omega)
  rw [show j+1+K=(j+K)+1 by omega,Do]
  show V3 (Dh _ h n) (Et Dh (j+K))=_
  rw [Ni hp hv hq hs hm ha (by omega) (by rw [show a0+i0=a0+(i0+0) by omega,h0]; exact hh)]
  show Et Dh (j+K) _ h n=_
  rw [HN hp hv hq hs hm ha hh j (i0+1) (by omega) (fun r hr'=>by have:=hr (r+1) (by omega); rw [←this]; congr 2; omega) K,show i0+1+j=i0+(j+1) by omega]
section
variable {G:R->Prop}
theorem EE {v:V} {κ0:R} {κ:Nat->R} (g0:G κ0) (g1:∀ r,v = .int .i64 r->G (κ r)):G (KQ v κ0 κ):=by
 rcases RH v κ0 κ with e | ⟨r,h,e⟩ <;> rw [e]
 ·exact g0
 ·exact g1 r h
theorem RQ {v:V} {κ0:R} {κ:K4->Nat->R} (g0:G κ0) (g1:∀ p o,v = .ptr p o->G (κ p o)):G (Tr v κ0 κ):=by
 rcases SH v κ0 κ with e | ⟨p,o,h,e⟩ <;> rw [e]
 ·exact g0
 ·exact g1 p o h
theorem Sr {v:V} {κ0:R} {κ:K4->R} (g0:G κ0) (g1:∀ p,v = .map p->G (κ p)):G (TJ v κ0 κ):=by
 rcases Sa v κ0 κ with e | ⟨p,h,e⟩ <;> rw [e]
 ·exact g0
 ·exact g1 p h
theorem Rp {o:Ch} {i:Nat} {κ0:R} {κ:V->R} (g0:G κ0) (g1:∀ xs sup prev v,o=some (.c (.l xs) sup prev)->xs[i]? = some v->G (κ v)):G (Qj o i κ0 κ):=by
 rcases QV o i κ0 κ with e | ⟨xs,sup,prev,v,h,h',e⟩ <;> rw [e]
 ·exact g0
 ·exact g1 xs sup prev v h h'
theorem Ri {o:Ch} {κ0:R} {κ:List (V×V)->List Nat->R} (g0:G κ0) (g1:∀ es bs c,o=some (.m es bs c)->G (κ es bs)):G (Q1 o κ0 κ):=by
 rcases Rv o κ0 κ with e | ⟨es,bs,c,h,e⟩ <;> rw [e]
 ·exact g0
 ·exact g1 es bs c h
theorem D5 {b:Bool} {x y:R} (g0:G y) (g1:b=true->G x):G (br b x y):=by
 cases b with
 | false=>exact g0
 | true=>exact g1 rfl
theorem GM {p:K4} {h:Heap} {κ:Ch->R} (g:G (κ (AM p h))):G (Br p h κ):=by rw [BC]; exact g
theorem Hi {m:Nat} {κ:Nat->R} (g:G (κ m)):G (Ak m κ):=by rw [Ai]; exact g
end
theorem ON:KL Dh Pd:=by
 intro t h κ κ0
 cases t with
 | mk c0 c1 c2 c3 c4 c5 c6 c7 =>
  cases c0 with
  | mk d0 d1 a d3 =>
   cases c1 with
   | mk d4 x m i =>
    obtain ⟨T,hT⟩:∃ T:S,T = .mk (.mk d0 d1 a d3) (.mk d4 x m i) c2 c3 c4 c5 c6 c7:=⟨_,rfl⟩
    obtain ⟨G,hG⟩:∃ G:R->Prop,∀ r,G r ↔ (r=κ0 ∨ ∃ j t',r=κ j t' ∧ ∀ k n,Et Dh (j+k) T h n=Et Dh k t' h n):=⟨_,fun r=>Iff.rfl⟩
    have g0:G κ0:=(hG _).2 (.inl rfl)
    rw [←hT]
    refine (hG _).1 ?_
    rw [hT]
    refine EE (G:=G) g0 fun i0 hi=>EE (G:=G) g0 fun m0 hm=>EE (G:=G) g0 fun a0 ha=>RQ (G:=G) g0 fun p off hx=>GM (G:=G) (Rp (G:=G) g0 fun xs sup prev u hp hv=>Sr (G:=G) g0 fun q hu=>?_)
    subst hi hm ha hx hu
    refine GM (G:=G) (Ri (G:=G) g0 fun es bs c hq=>D5 (G:=G) g0 fun b1=>D5 (G:=G) g0 fun b2=>D5 (G:=G) g0 fun b3=>D5 (G:=G) g0 fun b4=>Hi (G:=G) (D5 (G:=G) g0 fun b5=>Hi (G:=G) (Hi (G:=G) ?_)))
    have b1:=Nat.le_of_ble_eq_true b1
    have b2:=Nat.le_of_ble_eq_true b2
    have b3:=Nat.le_of_ble_eq_true b3
    have e1:Nat.sub m0 i0=m0 - i0:=rfl
    have e2:Nat.sub (Nat.mul 64 (Nat.succ (Nat.div (Nat.add a0 i0) 64))) (Nat.add a0 i0)=64*((a0+i0) / 64+1) - (a0+i0):=rfl
    have e3:Nat.div (Nat.add a0 i0) 64=(a0+i0) / 64:=rfl
    rw [e1,e2]
    rw [e3] at b5
    have key:∀ j,j≤m0 - i0->j≤64*((a0+i0) / 64+1) - (a0+i0)->∀ K n,Et Dh (j+K) (.mk (.mk d0 d1 (.int .i64 a0) d3) (.mk d4 (.ptr p off) (.int .i64 m0) (.int .i64 i0)) c2 c3 c4 c5 c6 c7) h n
      = Et Dh K (.mk (.mk d0 d1 (.int .i64 a0) d3) (.mk d4 (.ptr p off) (.int .i64 m0) (.int .i64 (i0+j))) c2 c3 c4 c5 c6 c7) h n:=fun j hj1 hj2 K n =>
     HN hp hv hq b4 b1 b2 b5 j i0 (by omega) (fun r hr=>by omega) K
    cases hb:Nat.ble (m0 - i0) (64*((a0+i0) / 64+1) - (a0+i0)) with
    | true =>
     rw [show ∀ x y:R,br true x y=x from fun _ _=>rfl,Ai]
     refine (hG _).2 (.inr ⟨m0 - i0,_,rfl,fun K n=>?_⟩)
     rw [hT]
     exact key _ (Nat.le_refl _) (Nat.le_of_ble_eq_true hb) K n
    | false =>
     rw [show ∀ x y:R,br false x y=y from fun _ _=>rfl,Ai]
     refine (hG _).2 (.inr ⟨64*((a0+i0) / 64+1) - (a0+i0),_,rfl,fun K n=>?_⟩)
     rw [hT]
     refine key _ ?_ (Nat.le_refl _) K n
     rcases Nat.lt_or_ge (64*((a0+i0) / 64+1) - (a0+i0)) (m0 - i0) with h' | h'
     ·omega
     ·rw [Nat.ble_eq_true_of_le h'] at hb; cases hb
theorem Su:Aw Dh=KC Dh Pd:=Is ON
def IH:S->Heap->K4->R:=fun t h n=>g7 t fun ze=>Am ze (.int .i64 8) fun zf=>Al zf (Ac 3 (g3 t fun zg=>CN zg (.int .u64 1) fun zh=>DF zg (.int .u32 1) fun zi=>LA zi fun zj=>DF (.int .u32 2197175160) zj fun zk=>C4 zh zk fun zl=>w3 t zl fun t=>.ok .nrm t h n) fun t h n=>g7 t fun zm=>Ag zm (.int .i64 1) fun zn=>w7 t zn fun t=>.ok .nrm t h n)<|.ok (.exit 2) t h n
def Wo (v:V) (κ0:R) (κ:Nat->R):R :=
 @V.rec (fun _=>R) (fun _=>Unit) (fun k r=>br (Bn k .u32) (κ r) κ0) (fun _=>κ0) (fun _ _=>κ0) (fun _ _ _ _ _ _=>κ0) (fun _ _=>κ0) (fun _ _=>κ0) (fun _=>κ0) (fun _=>κ0) (fun _ _ _=>κ0) (fun _ _=>κ0) (fun _=>κ0) () (fun _ _ _ _=>()) v
def HX (x:Nat):Nat:=Nat.xor (Nat.shiftRight x 1) (Nat.land 2197175160 (Nat.mod (Nat.add 0 (Nat.sub 4294967296 (Nat.land x 1))) 4294967296))
def Fs (j:Nat):Nat->Nat:=@Nat.rec (fun _=>Nat->Nat) (fun x=>x) (fun _ ih x=>ih (HX x)) j
theorem SG {G:R->Prop} {v:V} {κ0:R} {κ:Nat->R} (g0:G κ0) (g1:∀ r,v = .int .u32 r->G (κ r)):G (Wo v κ0 κ):=by
 cases v with
 | int k r =>
  show G (br (Bn k .u32) (κ r) κ0)
  cases hb:Bn k .u32 with
  | false=>exact g0
  | true=>exact g1 r (by rw [Bi.1 hb])
 | _=>exact g0
theorem PU {x:Nat} (h:x<4294967296):HX x<4294967296:=by
 have h1:x >>> 1<2 ^ 32:=by rw [Nat.shiftRight_eq_div_pow]; omega
 have h2:2197175160 &&& ((0+(4294967296 - (x &&& 1))) % 4294967296)<2 ^ 32:=Nat.lt_of_le_of_lt Nat.and_le_left (by decide)
 exact Nat.xor_lt_two_pow h1 h2
theorem Rw {d0 d1 d2 d4 d5 d6:V} {c2 c3 c4 c5 c6 c7:SQ} {h:Heap} {n:K4} {i x:Nat} (hi:i<8) (hx:x<4294967296) :
  IH (.mk (.mk d0 d1 d2 (.int .u32 x)) (.mk d4 d5 d6 (.int .i64 i)) c2 c3 c4 c5 c6 c7) h n = .ok .nrm (.mk (.mk d0 d1 d2 (.int .u32 (HX x))) (.mk d4 d5 d6 (.int .i64 (i+1))) c2 c3 c4 c5 c6 c7) h n:=by
 have e1:∀ κ:V->R,CN (.int .u32 x) (.int .u64 1) κ=κ (.int .u32 (Nat.shiftRight x 1)):=fun κ=>by
  have e0:CN (.int .u32 x) (.int .u64 1) κ=br (Nat.ble (Nat.succ x) 4294967296) (Ak (Nat.shiftRight x 1) fun r=>κ (.int .u32 r)) (.fail ""):=rfl
  rw [e0,show Nat.ble (Nat.succ x) 4294967296=true from Nat.ble_eq_true_of_le hx]
  show Ak (Nat.shiftRight x 1) (fun r=>κ (V.int .u32 r))=_
  rw [Ai]
 have e2:∀ (a b:Nat) (κ:V->R),DF (.int .u32 a) (.int .u32 b) κ=κ (.int .u32 (Nat.land a b)):=fun a b κ=>by
  have e0:DF (.int .u32 a) (.int .u32 b) κ=Ak (Nat.land a b) fun r=>κ (.int .u32 r):=rfl
  rw [e0,Ai]
 have e3:∀ (a b:Nat) (κ:V->R),C4 (.int .u32 a) (.int .u32 b) κ=κ (.int .u32 (Nat.xor a b)):=fun a b κ=>by
  have e0:C4 (.int .u32 a) (.int .u32 b) κ=Ak (Nat.xor a b) fun r=>κ (.int .u32 r):=rfl
  rw [e0,Ai]
 have e4:∀ (a:Nat) (κ:V->R),LA (.int .u32 a) κ=κ (.int .u32 (Nat.mod (Nat.add 0 (Nat.sub 4294967296 a)) 4294967296)):=fun a κ=>by
  have e0:LA (.int .u32 a) κ=Ak (Nat.mod (Nat.add 0 (Nat.sub 4294967296 a)) 4294967296) fun r=>κ (.int .u32 r):=rfl
  rw [e0,Ai]
 unfold IH
 show Am (.int .i64 i) (.int .i64 8) _=_
 rw [PR hi (by omega)]
 show Ac 3 (CN (.int .u32 x) (.int .u64 1) _) _=_
 rw [e1,e2,e4,e2,e3,FT]
 show Ag (.int .i64 i) (.int .i64 1) _=_
 rw [JL (by omega)]; rfl
theorem Kg {d0 d1 d2 d4 d5 d6:V} {c2 c3 c4 c5 c6 c7:SQ} {h:Heap} {n:K4} :
  ∀ (j i x:Nat),i+j≤8->x<4294967296->∀ K,Et IH (j+K) (.mk (.mk d0 d1 d2 (.int .u32 x)) (.mk d4 d5 d6 (.int .i64 i)) c2 c3 c4 c5 c6 c7) h n
   = Et IH K (.mk (.mk d0 d1 d2 (.int .u32 (Fs j x))) (.mk d4 d5 d6 (.int .i64 (i+j))) c2 c3 c4 c5 c6 c7) h n
 | 0,i,x,_,_,K=>by rw [Nat.zero_add]; rfl
 | j+1,i,x,hj,hx,K=>by
  rw [show j+1+K=(j+K)+1 by omega,Do]
  show V3 (IH _ h n) (Et IH (j+K))=_
  rw [Rw (by omega) hx]
  show Et IH (j+K) _ h n=_
  rw [Kg j (i+1) (HX x) (by omega) (PU hx) K,show i+1+j=i+(j+1) by omega]; rfl
end Go.Ev

namespace Go.Ev
set_option linter.unusedVariables false
theorem Jp (x:Nat):HX x=(x >>> 1) ^^^ (if x % 2=1 then 2197175160 else 0):=by
 show (x >>> 1) ^^^ (2197175160 &&& ((0+(4294967296 - (x &&& 1))) % 4294967296))=_
 rw [Nat.and_one_is_mod]
 rcases Nat.mod_two_eq_zero_or_one x with h | h <;> rw [h] <;> rfl
theorem SJ (a b:Nat):HX (a ^^^ b)=HX a ^^^ HX b:=by
 rw [Jp,Jp,Jp,Nat.shiftRight_xor_distrib]
 have h:(a ^^^ b) % 2=(a+b) % 2:=by
  have e:=Nat.xor_mod_two_pow (a:=a) (b:=b) (n:=1)
  rw [Nat.pow_one] at e
  rw [e]
  rcases Nat.mod_two_eq_zero_or_one a with ha | ha <;> rcases Nat.mod_two_eq_zero_or_one b with hb | hb <;> rw [ha,hb,Nat.add_mod,ha,hb] <;> rfl
 rcases Nat.mod_two_eq_zero_or_one a with ha | ha <;> rcases Nat.mod_two_eq_zero_or_one b with hb | hb
 ·have:(a ^^^ b) % 2=0:=by omega
  simp [ha,hb,this]
 ·have:(a ^^^ b) % 2=1:=by omega
  simp [ha,hb,this,Nat.xor_assoc]
 ·have:(a ^^^ b) % 2=1:=by omega
  simp only [ha,hb,this,if_true,if_false,Nat.xor_zero,reduceIte,Nat.zero_ne_one]
  simp only [Nat.xor_assoc,Nat.xor_comm (b >>> 1)]
 ·have:(a ^^^ b) % 2=0:=by omega
  simp only [ha,hb,this,reduceIte,Nat.xor_zero,Nat.zero_ne_one]
  generalize a >>> 1=p
  generalize b >>> 1=q
  apply Nat.eq_of_testBit_eq
  intro i
  simp only [Nat.testBit_xor]
  cases p.testBit i <;> cases q.testBit i <;> cases (2197175160:Nat).testBit i <;> rfl
theorem Oo:∀ (j a b:Nat),Fs j (a ^^^ b)=Fs j a ^^^ Fs j b
 | 0,_,_=>rfl
 | j+1,a,b=>by
  show Fs j (HX (a ^^^ b))=Fs j (HX a) ^^^ Fs j (HX b)
  rw [SJ,Oo]
theorem QC (m:Nat):HX (2*m)=m:=by
 rw [Jp,Nat.mul_mod_right,Nat.shiftRight_eq_div_pow]; simp
theorem Ov:∀ (j q:Nat),Fs j (2 ^ j*q)=q
 | 0,q=>by show 2 ^ 0*q=q; omega
 | j+1,q=>by
  show Fs j (HX (2 ^ (j+1)*q))=q
  rw [show 2 ^ (j+1)*q=2*(2 ^ j*q) by rw [Nat.pow_succ,Nat.mul_comm (2 ^ j) 2,Nat.mul_assoc],QC,Ov]
theorem QL (y:Nat):y=(2 ^ 8*(y / 2 ^ 8)) ^^^ (y % 2 ^ 8):=by
 apply Nat.eq_of_testBit_eq
 intro i
 rw [Nat.testBit_xor,Nat.testBit_two_pow_mul,Nat.testBit_mod_two_pow,Nat.testBit_div_two_pow]
 by_cases h:8≤i
 ·have h2:¬ i<8:=by omega
  simp [h,h2,show i - 8+8=i by omega]
 ·have h2:i<8:=by omega
  simp [h,h2]
theorem Qn:∀ (j:Nat) {x:Nat},x<4294967296->Fs j x<4294967296
 | 0,_,h=>h
 | j+1,x,h=>by show Fs j (HX x)<_; exact Qn j (PU h)
def Nb:Nat:=739192992287711479272199505450802174180944935565270117958735211195864883404034321072575759094604862722103638970562105654534965976895685875045062592379112792078985738769595739548904202597956689934399229134939183684703714920378025961387270778473281346239181994539903784708069763525514523240966634758967547723819948093640238732618841930738396489733218495472825776362786651876001733504161834172818020394346043168775838788836904094212573134772649703407841545716218812283123984658267516726659948613643534969466376019494666614718815429190684246327365394372519258139400530706807260825564948901732507176286259752944669944548605679086391305931301222988237278526118373278492307487107474296386730408839343753629123128283572704772544098648517013212824233746728729854273945055038163572363387039908578405517982904131040319505009390255243990278860523606265815895619710957563380635837315129012976704357344131429050367435482781212454439427280336740616644805562249867251859340971513883299426874200217165290071196282711253218164865174241416073419876796213293517950780480733835793334181716730049909888366296838117288969681076010175182486226749959458237712061794030512295298309798453151350168298336411933176330063767835252143862258384197256040876755067274410026075604127347481305827849130625987059819492849891529288490451730106428376839488665315100810248841715739596040091270955624355315201462555945279029196416991040143682248153287045556144390819759753283690710943841433520922330785319143598322120010359670046292912296136999474302691355293324886616216537430761212949134977443278613456733727644009057088654822989287437792990360527449046917776586498554113667460252688333953726837853077886002223252717428049737186417130969568838070377296274375688487884511950345697105344492065413654582468965021167618282726469469929715764674333614324035309623813703284835732759643444816186743644084768553800456975483023122915759126937036001171360984116527371042249105866775992680472790331893395027602898497596949565462107432141452181910127216554936352241472142685417685618824675396402282974391037184848625305334079832924861339728594832024687877422901193159812755254516361032103358958860399075665489958680801135040793967932263797765198140728704255468134266160630916650637156666977854355604551105352627939572551570066195951258251545213658746024110892771407706843609824354401912642345941057507434795836161327506684973593222243082074173577446865175872619707633030268690896528048779238513612740446475572226293760
abbrev MV (y:Nat):Nat:=Nat.xor (Nat.shiftRight y 8) (Nat.land (Nat.shiftRight Nb (Nat.mul 32 (Nat.land y 255))) 4294967295)
theorem U7:V7 (fun b=>Nat.beq (Fs 8 b) (Nat.land (Nat.shiftRight Nb (Nat.mul 32 b)) 4294967295)) 256=true:=by kernel_rfl
theorem Q3 (y:Nat):MV y=Fs 8 y:=by
 have h255:Nat.land y 255=y % 2 ^ 8:=Nat.and_two_pow_sub_one_eq_mod y 8
 have hb:y % 2 ^ 8<256:=Nat.mod_lt _ (by decide)
 have key:Fs 8 (y % 2 ^ 8)=Nat.land (Nat.shiftRight Nb (Nat.mul 32 (y % 2 ^ 8))) 4294967295:=Nat.eq_of_beq_eq_true (Ub U7 _ hb)
 have e:Fs 8 y=Fs 8 (2 ^ 8*(y / 2 ^ 8)) ^^^ Fs 8 (y % 2 ^ 8):=by rw [←Oo,←QL]
 rw [e,Ov,key]
 show Nat.xor (Nat.shiftRight y 8) (Nat.land (Nat.shiftRight Nb (Nat.mul 32 (Nat.land y 255))) 4294967295)=_
 rw [h255]
 show (y >>> 8) ^^^ _=_
 rw [Nat.shiftRight_eq_div_pow]
theorem WU {a b:Nat} {κ:V->R} (h:b≤a) (ha:a≤4611686018427387904):Am (.int .i64 a) (.int .i64 b) κ=κ (.bool false):=by
 have e0:Am (.int .i64 a) (.int .i64 b) κ=CH (br (Nat.ble 9223372036854775808 a) (br (Nat.ble 9223372036854775808 b) (Nat.ble (Nat.succ a) b) true) (br (Nat.ble 9223372036854775808 b) false (Nat.ble (Nat.succ a) b))) fun r=>κ (.bool r):=rfl
 have h1:Nat.ble 9223372036854775808 a=false:=Bool.eq_false_iff.2 fun h=>by have:=Nat.le_of_ble_eq_true h; omega
 have h2:Nat.ble 9223372036854775808 b=false:=Bool.eq_false_iff.2 fun h=>by have:=Nat.le_of_ble_eq_true h; omega
 have h3:Nat.ble (Nat.succ a) b=false:=Bool.eq_false_iff.2 fun h=>by have:=Nat.le_of_ble_eq_true h; omega
 rw [e0,C5,h1,h2,h3]; rfl
theorem Sd {p:K4} {off len cap esz i:Nat} {ex:Bool} {κ:V->R} (h:i<len) (hi:i<9223372036854775808):Ao esz (.sl p off len cap ex esz) (.int .i64 i) κ=κ (.ptr p (off+i*esz)):=by
 have e0:Ao esz (.sl p off len cap ex esz) (.int .i64 i) κ=br (Nat.ble (Nat.succ i) 9223372036854775808) (br (Nat.beq esz esz) (br (Nat.ble (Nat.succ i) len) (Ak (Nat.add off (Nat.mul i esz)) fun o=>κ (.ptr p o)) (.fail "")) (.fail "")) (.fail ""):=rfl
 rw [e0,show Nat.ble (Nat.succ i) 9223372036854775808=true from Nat.ble_eq_true_of_le hi,show Nat.ble (Nat.succ i) len=true from Nat.ble_eq_true_of_le h,show Nat.beq esz esz=true from Nat.beq_refl _]
 show Ak (Nat.add off (Nat.mul i esz)) (fun o=>κ (.ptr p o))=_
 rw [Ai]; rfl
theorem RJ {p:K4} {off m c:Nat} {h:Heap} {sup:Bool} {prev:Option K4} {κ:V->R} (hp:AM p h=some (.c (.b m c) sup prev)) (hv:off<m):Aa (.ptr p off) h κ=κ (.int .u8 (lo (sh c off) 1)):=by
 show PE p h (fun cs _ _=>FG cs off κ)=_
 rw [Gy]
 have e:(It p h fun cs _ _=>FG cs off κ)=@Option.rec Ob (fun _=>R) (.fail "") (fun o=>@Ob.rec (fun _=>R) (fun cs _ _=>FG cs off κ) (C2 "") (FF "") (.fail "") (AV "") o) (AM p h):=Ds _ _ _
 rw [e,hp]
 show br (Nat.ble (Nat.succ off) m) (Ak (lo (sh c off) 1) fun r=>κ (.int .u8 r)) (.fail "")=_
 rw [show Nat.ble (Nat.succ off) m=true from Nat.ble_eq_true_of_le hv]
 show Ak (lo (sh c off) 1) (fun r=>κ (V.int .u8 r))=_
 rw [Ai]
theorem Qd (c:Nat):lo c 1<256:=by rw [Dt]; exact Nat.mod_lt _ (by decide)
theorem PV (c a:Nat):sh (sh c a) 1=sh c (a+1):=by
 rw [EM,EM,EM,Nat.div_div_eq_div_mul,←Nat.pow_add]
def ZG (v:V) (κ0:R) (κ:K4->Nat->Nat->Nat->R):R :=
 @V.rec (fun _=>R) (fun _=>Unit) (fun _ _=>κ0) (fun _=>κ0) (fun _ _=>κ0) (fun p off len _ _ esz=>κ p off len esz) (fun _ _=>κ0) (fun _ _=>κ0) (fun _=>κ0) (fun _=>κ0) (fun _ _ _=>κ0) (fun _ _=>κ0) (fun _=>κ0) () (fun _ _ _ _=>()) v
theorem Q5 {G:R->Prop} {v:V} {κ0:R} {κ:K4->Nat->Nat->Nat->R} (g0:G κ0) (g1:∀ p off len cap ex esz,v = .sl p off len cap ex esz->G (κ p off len esz)):G (ZG v κ0 κ):=by
 cases v with
 | sl p off len cap ex esz=>exact g1 p off len cap ex esz rfl
 | _=>exact g0
def UH (o:Ch) (κ0:R) (κ:Nat->Nat->R):R :=
 @Option.rec Ob (fun _=>R) κ0 (fun o=>@Ob.rec (fun _=>R) (fun cs _ _=>@Cs.rec (fun _=>R) (fun _=>κ0) κ cs) (fun _ _ _=>κ0) (fun _ _ _ _=>κ0) κ0 (fun _ _=>κ0) o) o
theorem NQ {G:R->Prop} {o:Ch} {κ0:R} {κ:Nat->Nat->R} (g0:G κ0) (g1:∀ n c sup prev,o=some (.c (.b n c) sup prev)->G (κ n c)):G (UH o κ0 κ):=by
 cases o with
 | none=>exact g0
 | some o=>cases o with
  | c cs sup prev=>cases cs with
   | l xs=>exact g0
   | b n c=>exact g1 n c sup prev rfl
  | _=>exact g0
def W2 (v:V) (κ0:R) (κ:Nat->R):R :=
 @V.rec (fun _=>R) (fun _=>Unit) (fun k r=>br (Bn k .u64) (κ r) κ0) (fun _=>κ0) (fun _ _=>κ0) (fun _ _ _ _ _ _=>κ0) (fun _ _=>κ0) (fun _ _=>κ0) (fun _=>κ0) (fun _=>κ0) (fun _ _ _=>κ0) (fun _ _=>κ0) (fun _=>κ0) () (fun _ _ _ _=>()) v
theorem S3 {G:R->Prop} {v:V} {κ0:R} {κ:Nat->R} (g0:G κ0) (g1:∀ r,v = .int .u64 r->G (κ r)):G (W2 v κ0 κ):=by
 cases v with
 | int k r =>
  show G (br (Bn k .u64) (κ r) κ0)
  cases hb:Bn k .u64 with
  | false=>exact g0
  | true=>exact g1 r (by rw [Bi.1 hb])
 | _=>exact g0
def EK:S->Heap->K4->R:=fun t h n=>g6 t fun z5=>g5 t fun z6=>Am z5 z6 fun z7=>Al z7 (Ac 1 (g4 t fun z8=>Ao 1 z8 z5 fun z9=>Aa z9 h fun za=>g3 t fun zb=>AU .u32 za fun zc=>C4 zb zc fun zd=>Ac 2 (w3 t zd fun t=>w7 t (.int .i64 0) fun t=>Aw IH t h n) fun t h n=>.ok .nrm t h n) fun t h n=>g6 t fun zo=>Ag zo (.int .i64 1) fun zp=>w6 t zp fun t=>.ok .nrm t h n)<|.ok (.exit 0) t h n
def Na (j:Nat):Nat->Nat->Nat:=@Nat.rec (fun _=>Nat->Nat->Nat) (fun _ x=>x) (fun _ ih d x=>ih (sh d 1) (MV (Nat.xor x (lo d 1)))) j
def Vj (j:Nat):Nat->Nat->(Nat->R)->R:=@Nat.rec (fun _=>Nat->Nat->(Nat->R)->R) (fun _ x κ=>κ x) (fun _ ih d x κ=>Ak (Nat.xor x (lo d 1)) fun y=>Ak (MV y) fun x=>Ak (sh d 1) fun d=>ih d x κ) j
theorem PI:∀ (j d x:Nat) (κ:Nat->R),Vj j d x κ=κ (Na j d x)
 | 0,_,_,_=>rfl
 | j+1,d,x,κ=>by
  show Ak (Nat.xor x (lo d 1)) (fun y=>Ak (MV y) fun x=>Ak (sh d 1) fun d=>Vj j d x κ)=κ (Na j (sh d 1) (MV (Nat.xor x (lo d 1))))
  rw [Ai,Ai,Ai,PI]
theorem UA (d j:Nat):lo (lo d (j+1)) 1=lo d 1:=by
 rw [Dt,Dt,Dt,Nat.pow_succ,Nat.mod_mul_left_mod]
theorem Up (d j:Nat):sh (lo d (j+1)) 1=lo (sh d 1) j:=by
 rw [Dt,Dt,EM,EM,Nat.pow_succ,Nat.pow_one,Nat.mul_comm,Nat.mod_mul_right_div_self]
theorem Qb:∀ (j d x:Nat),Na j (lo d j) x=Na j d x
 | 0,_,_=>rfl
 | j+1,d,x=>by
  show Na j (sh (lo d (j+1)) 1) (MV (Nat.xor x (lo (lo d (j+1)) 1)))=Na j (sh d 1) (MV (Nat.xor x (lo d 1)))
  rw [UA,Up,Qb]
def Tf:O3:=fun t h κ κ0=>g6 t fun i=>g5 t fun m=>g4 t fun s=>g3 t fun x=>KQ i κ0 fun i0=>KQ m κ0 fun m0=>ZG s κ0 fun p off len esz=>Wo x κ0 fun x0=>Br p h fun o=>UH o κ0 fun nb c =>
 br (Nat.ble (Nat.succ i0) m0) (br (Nat.ble m0 len) (br (Nat.ble (Nat.add off len) nb) (br (Nat.beq esz 1) (br (Nat.ble (Nat.succ x0) 4294967296) (br (Nat.ble m0 4611686018427387904)
  (Ak (Nat.sub m0 i0) fun j=>Ak (lo (sh c (Nat.add off i0)) j) fun d=>Vj j d x0 fun x=>w3 t (.int .u32 x) fun t=>w6 t (.int .i64 m0) fun t=>w7 t (.int .i64 8) fun t=>κ j t) κ0) κ0) κ0) κ0) κ0) κ0
theorem Sj (body:S->Heap->K4->R) (k:Nat) (t:S) (h:Heap) (n:K4):Et body (k+1) t h n=V3 (body t h n) (Et body k):=Do body (k+1) t h n
theorem NB {id:Nat} {t:S} {h:Heap} {n:K4} {κ:S->Heap->K4->R}:Ac id (.ok (.exit id) t h n) κ=κ t h n:=by
 show br (Nat.beq id id) (κ t h n) (.ok (.exit id) t h n)=κ t h n
 rw [Nat.beq_refl]; rfl
theorem Qz {d0 d1 d2 d4 d5 d6:V} {c2 c3 c4 c5 c6 c7:SQ} {h:Heap} {n:K4} {x:Nat} (hx:x<4294967296) :
  Aw IH (.mk (.mk d0 d1 d2 (.int .u32 x)) (.mk d4 d5 d6 (.int .i64 0)) c2 c3 c4 c5 c6 c7) h n = .ok (.exit 2) (.mk (.mk d0 d1 d2 (.int .u32 (Fs 8 x))) (.mk d4 d5 d6 (.int .i64 8)) c2 c3 c4 c5 c6 c7) h n:=by
 show Et IH 1000000000 _ _ _=_
 rw [show (1000000000:Nat)=8+(999999991+1) from rfl,Kg 8 0 x (by omega) hx,Sj]
 have e:IH (.mk (.mk d0 d1 d2 (.int .u32 (Fs 8 x))) (.mk d4 d5 d6 (.int .i64 (0+8))) c2 c3 c4 c5 c6 c7) h n = .ok (.exit 2) (.mk (.mk d0 d1 d2 (.int .u32 (Fs 8 x))) (.mk d4 d5 d6 (.int .i64 (0+8))) c2 c3 c4 c5 c6 c7) h n:=by
  unfold IH
  show Am (.int .i64 (0+8)) (.int .i64 8) _=_
  rw [WU (by omega) (by omega)]; rfl
 rw [e]; rfl
theorem SP {k:IntKind} {r:Nat} {κ:V->R} (h:r<256) (hk:256≤Mk k):AU k (.int .u8 r) κ=κ (.int k r):=by
 have e0:AU k (.int .u8 r) κ=br (Nat.ble (Nat.succ r) 256) (Ak (Nat.mod r (Mk k)) fun r=>κ (.int k r)) (br (Nat.ble (Mk k) 256) (Ak (Nat.mod r (Mk k)) fun r=>κ (.int k r)) (Ak (Nat.sub (Mk k) (Nat.sub 256 r)) fun r=>κ (.int k r))):=rfl
 rw [e0,show Nat.ble (Nat.succ r) 256=true from Nat.ble_eq_true_of_le h]
 show Ak (Nat.mod r (Mk k)) (fun r=>κ (V.int k r))=_
 rw [Ai,show Nat.mod r (Mk k)=r from Nat.mod_eq_of_lt (by omega)]
theorem K0 {d0 d1 d2 d7:V} {c2 c3 c4 c5 c6 c7:SQ} {h:Heap} {n p:K4} {off len cap m i x nb c:Nat} {ex sup:Bool} {prev:Option K4}
  (hp:AM p h=some (.c (.b nb c) sup prev)) (hi:i<m) (hm:m≤len) (hl:off+len≤nb) (hb:m≤4611686018427387904) (hx:x<4294967296) :
  EK (.mk (.mk d0 d1 d2 (.int .u32 x)) (.mk (.sl p off len cap ex 1) (.int .i64 m) (.int .i64 i) d7) c2 c3 c4 c5 c6 c7) h n
   = .ok .nrm (.mk (.mk d0 d1 d2 (.int .u32 (MV (Nat.xor x (lo (sh c (off+i)) 1))))) (.mk (.sl p off len cap ex 1) (.int .i64 m) (.int .i64 (i+1)) (.int .i64 8)) c2 c3 c4 c5 c6 c7) h n:=by
 unfold EK
 show Am (.int .i64 i) (.int .i64 m) _=_
 rw [PR hi hb]
 show Ac 1 (Ao 1 (.sl p off len cap ex 1) (.int .i64 i) _) _=_
 rw [Sd (by omega) (by omega),RJ hp (by omega)]
 show Ac 1 (AU .u32 (.int .u8 (lo (sh c (off+i*1)) 1)) _) _=_
 rw [SP (Qd _) (by decide),Nat.mul_one]
 have e3:∀ (a b:Nat) (κ:V->R),C4 (.int .u32 a) (.int .u32 b) κ=κ (.int .u32 (Nat.xor a b)):=fun a b κ=>by
  have e0:C4 (.int .u32 a) (.int .u32 b) κ=Ak (Nat.xor a b) fun r=>κ (.int .u32 r):=rfl
  rw [e0,Ai]
 rw [e3]
 have hx2:Nat.xor x (lo (sh c (off+i)) 1)<4294967296:=Nat.xor_lt_two_pow (n:=32) hx (Nat.lt_trans (Qd _) (by decide))
 rw [Q3]
 generalize Nat.xor x (lo (sh c (off+i)) 1)=y at hx2
 show Ac 1 (Ac 2 (Aw IH (.mk (.mk d0 d1 d2 (.int .u32 y)) (.mk (.sl p off len cap ex 1) (.int .i64 m) (.int .i64 i) (.int .i64 0)) c2 c3 c4 c5 c6 c7) h n) _) _=_
 rw [Qz hx2,NB,FT]
 show Ag (.int .i64 i) (.int .i64 1) _=_
 rw [JL (by omega)]
theorem IV {d0 d1 d2:V} {c2 c3 c4 c5 c6 c7:SQ} {h:Heap} {n p:K4} {off len cap m nb c:Nat} {ex sup:Bool} {prev:Option K4}
  (hp:AM p h=some (.c (.b nb c) sup prev)) (hm:m≤len) (hl:off+len≤nb) (hb:m≤4611686018427387904) :
  ∀ (j i x:Nat) (d7:V),i+(j+1)≤m->x<4294967296->∀ K,Et EK (j+1+K) (.mk (.mk d0 d1 d2 (.int .u32 x)) (.mk (.sl p off len cap ex 1) (.int .i64 m) (.int .i64 i) d7) c2 c3 c4 c5 c6 c7) h n
   = Et EK K (.mk (.mk d0 d1 d2 (.int .u32 (Na (j+1) (sh c (off+i)) x))) (.mk (.sl p off len cap ex 1) (.int .i64 m) (.int .i64 (i+(j+1))) (.int .i64 8)) c2 c3 c4 c5 c6 c7) h n
 | 0,i,x,d7,hj,hx,K=>by
  rw [show 0+1+K=K+1 by omega,Do]
  show V3 (EK _ h n) (Et EK K)=_
  rw [K0 hp (by omega) hm hl hb hx]; rfl
 | j+1,i,x,d7,hj,hx,K=>by
  rw [show j+1+1+K=(j+1+K)+1 by omega,Do]
  show V3 (EK _ h n) (Et EK (j+1+K))=_
  rw [K0 hp (by omega) hm hl hb hx]
  show Et EK (j+1+K) _ h n=_
  rw [IV hp hm hl hb j (i+1) _ _ (by omega) (by rw [Q3]; exact Qn 8 (Nat.xor_lt_two_pow (n:=32) hx (Nat.lt_trans (Qd _) (by decide)))) K]
  have e:Na (j+1+1) (sh c (off+i)) x=Na (j+1) (sh (sh c (off+i)) 1) (MV (Nat.xor x (lo (sh c (off+i)) 1))):=rfl
  rw [e,PV,show off+(i+1)=off+i+1 by omega,show i+1+(j+1)=i+(j+1+1) by omega]
theorem QG:KL EK Tf:=by
 intro t h κ κ0
 cases t with
 | mk c0 c1 c2 c3 c4 c5 c6 c7 =>
  cases c0 with
  | mk d0 d1 d2 x =>
   cases c1 with
   | mk s m i d7 =>
    obtain ⟨T,hT⟩:∃ T:S,T = .mk (.mk d0 d1 d2 x) (.mk s m i d7) c2 c3 c4 c5 c6 c7:=⟨_,rfl⟩
    obtain ⟨G,hG⟩:∃ G:R->Prop,∀ r,G r ↔ (r=κ0 ∨ ∃ j t',r=κ j t' ∧ ∀ k n,Et EK (j+k) T h n=Et EK k t' h n):=⟨_,fun r=>Iff.rfl⟩
    have g0:G κ0:=(hG _).2 (.inl rfl)
    rw [←hT]
    refine (hG _).1 ?_
    rw [hT]
    refine EE (G:=G) g0 fun i0 hi=>EE (G:=G) g0 fun m0 hm=>Q5 (G:=G) g0 fun p off len cap ex esz hs=>SG (G:=G) g0 fun x0 hx=>GM (G:=G) (NQ (G:=G) g0 fun nb c sup prev hp=>?_)
    subst hi hm hs hx
    refine D5 (G:=G) g0 fun b1=>D5 (G:=G) g0 fun b2=>D5 (G:=G) g0 fun b3=>D5 (G:=G) g0 fun b4=>D5 (G:=G) g0 fun b5=>D5 (G:=G) g0 fun b6=>?_
    have b1:=Nat.le_of_ble_eq_true b1
    have b2:=Nat.le_of_ble_eq_true b2
    have b3:off+len≤nb:=Nat.le_of_ble_eq_true b3
    have b4:=Nat.eq_of_beq_eq_true b4
    have b5:=Nat.le_of_ble_eq_true b5
    have b6:=Nat.le_of_ble_eq_true b6
    subst b4
    obtain ⟨j,hj⟩:∃ j,Nat.sub m0 i0=j+1:=⟨m0 - i0 - 1,by show m0 - i0=_; omega⟩
    have hj':m0 - i0=j+1:=hj
    rw [hj,Ai,Ai,PI,Qb]
    refine (hG _).2 (.inr ⟨j+1,_,rfl,fun K n=>?_⟩)
    rw [hT,IV hp b2 b3 b6 j i0 x0 d7 (by omega) b5 K,show i0+(j+1)=m0 by omega]; rfl
theorem U9:Aw EK=KC EK Tf:=Is QG
def Fq:S->Heap->K4->R:=fun t h n=>g5 t fun z3=>g4 t fun z4=>Am z3 z4 fun z5=>Al z5 (Ac 1 (g3 t fun z6=>Ao 1 z6 z3 fun z7=>Aa z7 h fun z8=>g2 t fun z9=>H6 z9 (.int .u64 8) fun za=>AU .u64 z8 fun zb=>MX za zb fun zc=>w2 t zc fun t=>.ok .nrm t h n) fun t h n=>g5 t fun zd=>Ag zd (.int .i64 1) fun ze=>w5 t ze fun t=>.ok .nrm t h n)<|.ok (.exit 0) t h n
abbrev J5 (x b:Nat):Nat:=Nat.lor (Nat.mod (Nat.shiftLeft x 8) 18446744073709551616) b
def Im (j:Nat):Nat->Nat->Nat:=@Nat.rec (fun _=>Nat->Nat->Nat) (fun _ x=>x) (fun _ ih d x=>ih (sh d 1) (J5 x (lo d 1))) j
def SU (j:Nat):Nat->Nat->(Nat->R)->R:=@Nat.rec (fun _=>Nat->Nat->(Nat->R)->R) (fun _ x κ=>κ x) (fun _ ih d x κ=>Ak (J5 x (lo d 1)) fun x=>Ak (sh d 1) fun d=>ih d x κ) j
theorem O5:∀ (j d x:Nat) (κ:Nat->R),SU j d x κ=κ (Im j d x)
 | 0,_,_,_=>rfl
 | j+1,d,x,κ=>by
  show Ak (J5 x (lo d 1)) (fun x=>Ak (sh d 1) fun d=>SU j d x κ)=κ (Im j (sh d 1) (J5 x (lo d 1)))
  rw [Ai,Ai,O5]
theorem NN:∀ (j d x:Nat),Im j (lo d j) x=Im j d x
 | 0,_,_=>rfl
 | j+1,d,x=>by
  show Im j (sh (lo d (j+1)) 1) (J5 x (lo (lo d (j+1)) 1))=Im j (sh d 1) (J5 x (lo d 1))
  rw [UA,Up,NN]
def Sb:O3:=fun t h κ κ0=>g5 t fun i=>g4 t fun m=>g3 t fun s=>g2 t fun x=>KQ i κ0 fun i0=>KQ m κ0 fun m0=>ZG s κ0 fun p off len esz=>W2 x κ0 fun x0=>Br p h fun o=>UH o κ0 fun nb c =>
 br (Nat.ble (Nat.succ i0) m0) (br (Nat.ble m0 len) (br (Nat.ble (Nat.add off len) nb) (br (Nat.beq esz 1) (br (Nat.ble m0 4611686018427387904)
  (Ak (Nat.sub m0 i0) fun j=>Ak (lo (sh c (Nat.add off i0)) j) fun d=>SU j d x0 fun x=>w2 t (.int .u64 x) fun t=>w5 t (.int .i64 m0) fun t=>κ j t) κ0) κ0) κ0) κ0) κ0
theorem Ph {d0 d1 d6 d7:V} {c2 c3 c4 c5 c6 c7:SQ} {h:Heap} {n p:K4} {off len cap m i x nb c:Nat} {ex sup:Bool} {prev:Option K4}
  (hp:AM p h=some (.c (.b nb c) sup prev)) (hi:i<m) (hm:m≤len) (hl:off+len≤nb) (hb:m≤4611686018427387904) :
  Fq (.mk (.mk d0 d1 (.int .u64 x) (.sl p off len cap ex 1)) (.mk (.int .i64 m) (.int .i64 i) d6 d7) c2 c3 c4 c5 c6 c7) h n
   = .ok .nrm (.mk (.mk d0 d1 (.int .u64 (J5 x (lo (sh c (off+i)) 1))) (.sl p off len cap ex 1)) (.mk (.int .i64 m) (.int .i64 (i+1)) d6 d7) c2 c3 c4 c5 c6 c7) h n:=by
 unfold Fq
 show Am (.int .i64 i) (.int .i64 m) _=_
 rw [PR hi hb]
 show Ac 1 (Ao 1 (.sl p off len cap ex 1) (.int .i64 i) _) _=_
 rw [Sd (by omega) (by omega),RJ hp (by omega),Nat.mul_one]
 have e1:∀ (κ:V->R),H6 (.int .u64 x) (.int .u64 8) κ=κ (.int .u64 (Nat.mod (Nat.shiftLeft x 8) 18446744073709551616)):=fun κ=>by
  have e0:H6 (.int .u64 x) (.int .u64 8) κ=Ak (Nat.mod (Nat.shiftLeft x 8) 18446744073709551616) fun r=>κ (.int .u64 r):=rfl
  rw [e0,Ai]
 have e2:∀ (a b:Nat) (κ:V->R),MX (.int .u64 a) (.int .u64 b) κ=κ (.int .u64 (Nat.lor a b)):=fun a b κ=>by
  have e0:MX (.int .u64 a) (.int .u64 b) κ=Ak (Nat.lor a b) fun r=>κ (.int .u64 r):=rfl
  rw [e0,Ai]
 show Ac 1 (H6 (.int .u64 x) (.int .u64 8) _) _=_
 rw [e1,SP (Qd _) (by decide),e2,FT]
 show Ag (.int .i64 i) (.int .i64 1) _=_
 rw [JL (by omega)]
theorem J8 {d0 d1 d6 d7:V} {c2 c3 c4 c5 c6 c7:SQ} {h:Heap} {n p:K4} {off len cap m nb c:Nat} {ex sup:Bool} {prev:Option K4}
  (hp:AM p h=some (.c (.b nb c) sup prev)) (hm:m≤len) (hl:off+len≤nb) (hb:m≤4611686018427387904) :
  ∀ (j i x:Nat),i+j≤m->∀ K,Et Fq (j+K) (.mk (.mk d0 d1 (.int .u64 x) (.sl p off len cap ex 1)) (.mk (.int .i64 m) (.int .i64 i) d6 d7) c2 c3 c4 c5 c6 c7) h n
   = Et Fq K (.mk (.mk d0 d1 (.int .u64 (Im j (sh c (off+i)) x)) (.sl p off len cap ex 1)) (.mk (.int .i64 m) (.int .i64 (i+j)) d6 d7) c2 c3 c4 c5 c6 c7) h n
 | 0,i,x,hj,K=>by rw [Nat.zero_add]; rfl
 | j+1,i,x,hj,K=>by
  rw [show j+1+K=(j+K)+1 by omega,Do]
  show V3 (Fq _ h n) (Et Fq (j+K))=_
  rw [Ph hp (by omega) hm hl hb]
  show Et Fq (j+K) _ h n=_
  rw [J8 hp hm hl hb j (i+1) _ (by omega) K]
  have e:Im (j+1) (sh c (off+i)) x=Im j (sh (sh c (off+i)) 1) (J5 x (lo (sh c (off+i)) 1)):=rfl
  rw [e,PV,show off+(i+1)=off+i+1 by omega,show i+1+j=i+(j+1) by omega]
theorem R7:KL Fq Sb:=by
 intro t h κ κ0
 cases t with
 | mk c0 c1 c2 c3 c4 c5 c6 c7 =>
  cases c0 with
  | mk d0 d1 x s =>
   cases c1 with
   | mk m i d6 d7 =>
    obtain ⟨T,hT⟩:∃ T:S,T = .mk (.mk d0 d1 x s) (.mk m i d6 d7) c2 c3 c4 c5 c6 c7:=⟨_,rfl⟩
    obtain ⟨G,hG⟩:∃ G:R->Prop,∀ r,G r ↔ (r=κ0 ∨ ∃ j t',r=κ j t' ∧ ∀ k n,Et Fq (j+k) T h n=Et Fq k t' h n):=⟨_,fun r=>Iff.rfl⟩
    have g0:G κ0:=(hG _).2 (.inl rfl)
    rw [←hT]
    refine (hG _).1 ?_
    rw [hT]
    refine EE (G:=G) g0 fun i0 hi=>EE (G:=G) g0 fun m0 hm=>Q5 (G:=G) g0 fun p off len cap ex esz hs=>S3 (G:=G) g0 fun x0 hx=>GM (G:=G) (NQ (G:=G) g0 fun nb c sup prev hp=>?_)
    subst hi hm hs hx
    refine D5 (G:=G) g0 fun b1=>D5 (G:=G) g0 fun b2=>D5 (G:=G) g0 fun b3=>D5 (G:=G) g0 fun b4=>D5 (G:=G) g0 fun b6=>?_
    have b1:=Nat.le_of_ble_eq_true b1
    have b2:=Nat.le_of_ble_eq_true b2
    have b3:off+len≤nb:=Nat.le_of_ble_eq_true b3
    have b4:=Nat.eq_of_beq_eq_true b4
    have b6:=Nat.le_of_ble_eq_true b6
    subst b4
    rw [Ai,Ai,O5,NN]
    refine (hG _).2 (.inr ⟨Nat.sub m0 i0,_,rfl,fun K n=>?_⟩)
    rw [hT,J8 hp b2 b3 b6 (Nat.sub m0 i0) i0 x0 (by show i0+(m0 - i0)≤m0; omega) K,show i0+Nat.sub m0 i0=m0 by show i0+(m0 - i0)=m0; omega]; rfl
theorem Ty:Aw Fq=KC Fq Sb:=Is R7
end Go.Ev

namespace Go.Ev
set_option linter.unusedVariables false
theorem KX {P:Program} {f:FuncId} {fn:Func} {c:Code} {xs:Array Value} {w:World} {R:Value->World->Prop} (hf:P.funcs[f]? = some fn) (hb:fn.body=some c) (hn:(fn.name == "runtime.NumGoroutine")=false)
  (h:Calls P f xs w fun e w'=>∃ v,e = .returned v∧R v w'):Jh P f xs w R:=by
 intro o a K Q hK
 have hn':fn.name ≠ "runtime.NumGoroutine":=by simpa using hn
 have e:(callFunc f xs).run P w = .ok (.enter f xs) w:=by simp [callFunc,hf,hn',hb]
 rw [e]
 show Calls P f xs w _
 refine h.mono fun e w' ⟨v,he,hv⟩=>?_
 subst he
 exact hK v w' hv
def NJ (r:Nat) (m:Nat):Nat->Nat->(Nat->R)->R :=
 @Nat.rec (fun _=>Nat->Nat->(Nat->R)->R) (fun _ a κ=>κ a)
  (fun _ ih c a κ=>br (Nat.beq (lo c 1) r) (Ak (sh c 1) fun d=>Ak (Nat.succ a) fun a=>ih d a κ) (Ak (sh c 1) fun d=>ih d a κ)) m
theorem To (b:UInt8) (l:List UInt8):∀ (a:Nat) (κ:Nat->R),NJ b.toNat l.length (B5 l) a κ=κ (a+Lib.countByte l b):=by
 induction l with
 | nil=>intro a κ; show κ a=κ (a+Lib.countByte [] b); simp [Lib.countByte]
 | cons x l ih =>
  intro a κ
  have hx:=x.toNat_lt
  have e0:lo (B5 (x::l)) 1=x.toNat:=by rw [Dt]; simp only [B5]; omega
  have e1:sh (B5 (x::l)) 1=B5 l:=by rw [EM]; simp only [B5]; omega
  have e2:NJ b.toNat (x::l).length (B5 (x::l)) a κ=br (Nat.beq x.toNat b.toNat) (NJ b.toNat l.length (B5 l) (a+1) κ) (NJ b.toNat l.length (B5 l) a κ):=by
   have:NJ b.toNat (x::l).length (B5 (x::l)) a κ=br (Nat.beq (lo (B5 (x::l)) 1) b.toNat) (Ak (sh (B5 (x::l)) 1) fun d=>Ak (Nat.succ a) fun a=>NJ b.toNat l.length d a κ) (Ak (sh (B5 (x::l)) 1) fun d=>NJ b.toNat l.length d a κ):=rfl
   rw [this,e0,e1,Ai,Ai,Ai]
  rw [e2,ih,ih]
  have hc:Lib.countByte (x::l) b=Lib.countByte l b+if x == b then 1 else 0:=by unfold Lib.countByte; rw [List.count_cons]
  rw [hc]
  by_cases hb:x=b
  ·subst hb
   rw [Nat.beq_refl,AZ]; simp; congr 1; omega
  ·have h1:Nat.beq x.toNat b.toNat=false:=by
    cases h:Nat.beq x.toNat b.toNat with
    | false=>rfl
    | true=>exact absurd (UInt8.toNat_inj.1 (Nat.eq_of_beq_eq_true h)) hb
   have h2:(x == b)=false:=by simpa using hb
   rw [h1,B2,h2]; simp
def Du:IG:=fun args h n =>
 G9 args fun x l=>G9 l fun y l=>OC l (Bh x fun m c=>G3 y fun k r=>br (Bn k .u8) (br (Nat.ble m 1000000000) (NJ r m c 0 fun i=>.rv (.int .i64 i) h n) (.fail "")) (.fail ""))
theorem Gd {P:Program} {ρ:Env} {B:Nat} {f:FuncId} (b:Bare P f Extern.BytealgCount.count):Hg P ρ B f Du:=by
 intro args h n v h1 n1 hx φ w xs g hr
 have hg:(Du args h n).good:=by rw [hx]; trivial
 unfold Du at hx hg
 obtain ⟨x,l,rfl,q1⟩:=Eu hg
 rw [q1] at hx hg
 obtain ⟨y,l,rfl,q2⟩:=Eu hg
 rw [q2] at hx hg
 obtain ⟨rfl,q3⟩:=I5 hg
 rw [q3] at hx
 obtain ⟨m,c,rfl,hx⟩:=Ow hx
 obtain ⟨k,r,rfl,hx⟩:=Py hx
 obtain ⟨hk,hx⟩:=Ml hx
 have:=Bi.1 hk
 subst this
 obtain ⟨hm,hx⟩:=Ml hx
 have hm:=Ar.1 hm
 obtain ⟨x1,ys,hxs,hr1,hr⟩:=AJ.1 hr
 obtain ⟨x2,ys,rfl,hr2,hr⟩:=AJ.1 hr
 obtain rfl:=AT.1 hr
 obtain ⟨s,rfl,hsz,hc⟩:=(by simpa only [AL] using hr1:∃ s:ByteArray,x1 = .string s∧s.size=m∧B5 s.data.toList=c)
 obtain ⟨hlt,rfl⟩:=(by simpa only [AL] using hr2:r<Mk .u8∧x2 = .int .u8 (C3 .u8 r))
 have hlt:r<256:=hlt
 have hdec:C3 .u8 r=(r:Int):=AI (by show r<256; exact hlt)
 obtain rfl:xs = #[.string s,.int .u8 (C3 .u8 r)]:=by cases xs; simp at hxs; simp [hxs]
 rw [hdec]
 refine b.runs (Lib.run_countString s r w) ⟨φ,?_⟩
 have hb:((r:Int).toNat.toUInt8).toNat=r:=by
  simp only [Int.toNat_natCast]
  exact UInt8.toNat_ofNat_of_lt' (show r<2 ^ 8 from hlt)
 have hl:s.data.toList.length=m:=by rw [←hsz]; rfl
 have key:=To ((r:Int).toNat.toUInt8) s.data.toList 0 (fun i=>R.rv (.int .i64 i) h n)
 rw [hb,hl,hc] at key
 rw [key] at hx
 have hle:Lib.countByte s.data.toList ((r:Int).toNat.toUInt8)≤m:=by rw [←hl]; exact List.count_le_length
 cases hx
 refine ⟨Fr.refl h φ n w,g,?_⟩
 simp only [AL]
 rw [Nat.zero_add]
 have h9:Lib.countByte s.data.toList ((r:Int).toNat.toUInt8)<9223372036854775808:=by omega
 exact ⟨Nat.lt_trans h9 (by decide),congrArg (Value.int .i64) (AI (k:=.i64) h9).symm⟩
def TI (P:Program) (f:FuncId):Prop :=
 ∀ (x k:Int) (w:World),-9223372036854775808≤x->x<9223372036854775808->0<k->k≤1000000->Calls P f #[.int .i64 x,.int .i64 k] w fun e w'=>e = .returned (.int .i64 ((x.natAbs % k.toNat:Nat):Int))∧w'=w
section
variable {P:Program} {ρ:Env} {B:Nat}
end
abbrev iI (n:Nat):V:=.int .i64 n
abbrev iW (n:Nat):V:=.int .u32 n
abbrev iB (n:Nat):V:=.int .u8 n
abbrev iL (n:Nat):V:=.int .u64 n
abbrev nR (t:S) (h:Heap) (n:K4):R:=.ok .nrm t h n
abbrev rT (t:S) (h:Heap) (n:K4):R:=.ok .ret t h n
def o8 (i:Nat):O8:=@Nat.rec (fun _=>O8) .d0 (fun i _=>@Nat.rec (fun _=>O8) .d1 (fun i _=>@Nat.rec (fun _=>O8) .d2 (fun i _=>@Nat.rec (fun _=>O8) .d3 (fun i _=>@Nat.rec (fun _=>O8) .d4 (fun i _=>@Nat.rec (fun _=>O8) .d5 (fun i _=>@Nat.rec (fun _=>O8) .d6 (fun _ _=>.d7) i) i) i) i) i) i) i
def o4 (i:Nat):O4:=@Nat.rec (fun _=>O4) .d0 (fun i _=>@Nat.rec (fun _=>O4) .d1 (fun i _=>@Nat.rec (fun _=>O4) .d2 (fun _ _=>.d3) i) i) i
def mS (l:List Nat):SM:=@List.rec Nat (fun _=>Nat->SM) (fun _=>[]) (fun p _ ih i=>(⟨D.ofN (Nat.div p 16),D.ofN (Nat.mod p 16)⟩,⟨o8 (Nat.div i 4),o4 (Nat.mod i 4)⟩)::ih (Nat.succ i)) l 0
theorem N1 {α:Type} {p:α->Bool} {l:List α} (k:Nat) (h1:((l.take k).all fun x=>!p x)=true) (h2:((l.drop k).all fun x=>!p x)=true):(l.all fun x=>!p x)=true:=by
 rw [←List.take_append_drop k l,List.all_append,h1,h2]; rfl
theorem Ts {P:Program} (h:(P.funcs.toList.all fun fn=>!fn.goes)=true) (func:String):P.goesAt .entering func=false:=by
 have key:∀ g:Nat,(P.funcs[g]?).any Func.goes=false:=fun g=>by
  cases hx:P.funcs[g]? with
  | none=>rfl
  | some fn =>
   have hm:fn∈P.funcs.toList:=by
    rw [←Array.getElem?_toList] at hx
    exact List.mem_of_getElem? hx
   have:=List.all_eq_true.1 h fn hm
   simpa using this
 have hp:P.funcs.any Func.goes=false:=by
  rw [←Array.any_toList,Bool.eq_false_iff]
  intro hc
  obtain ⟨fn,hm,hg⟩:=List.any_eq_true.1 hc
  have:=List.all_eq_true.1 h fn hm
  rw [hg] at this; cases this
 have hgo:∀ f,P.goes f=false:=fun f=>by
  unfold Program.goes
  rw [hp,Bool.and_false,Bool.or_false,Bool.eq_false_iff]
  intro hc
  simp only [key] at hc
  simp at hc
 unfold Program.goesAt Program.goesFrom
 cases P.funcNamed func with
 | none=>rfl
 | some f=>simp [hgo f]
end Go.Ev

namespace Go.Ev
set_option linter.unusedVariables false
abbrev Cd:=Nat->Option (Array Value×TypeId×(Nat×Nat))
def KB (P:Program) (fs:List Nat) (gl:Cd):Env:={ Gq P fs with gl:=gl }
theorem Xe {P:Program} {fs:List Nat} {gl:Cd}:Bo (KB P fs gl):=fun _=>rfl
section
variable {P:Program} {ρ:Env} {B:Nat}
theorem BP.gl {fs:List Nat} {gl:Cd} {f:FuncId} {e:Ent} (h:BP P (Gq P fs) f e):BP P (KB P fs gl) f e:=h
theorem H3.mkG {fs:List Nat} {gl:Cd} {T:FC} (h:∀ f e,Jy (BA f) T=some e->M8 P (KB P fs gl) B f e) (ha:∀ f∈fs,∃ e,Jy (BA f) T=some e∧BP P (KB P fs gl) f e):H3 P (KB P fs gl) B T:=by
 refine ⟨h,fun f A hA=>?_⟩
 have hA:@Bool.rec (fun _=>Option ApC) none (L6 P f) (fs.contains f)=some A:=hA
 cases hc:fs.contains f with
 | false=>rw [hc] at hA; cases hA
 | true=>exact ha f (List.contains_iff_mem.1 hc)
def OV (P:Program) (gl:Cd) (name:String) (k:IntKind) (zs:List Int):Prop:=∃ g e fr,P.globalNamed name=some g∧gl g=some ((zs.map fun z=>Value.int k z).toArray,e,fr)
theorem OV.is {gl:Cd} {name:String} {k:IntKind} {zs:List Int} {h:Heap} {n:K4} {φ:B9} {w:World} (t:OV P gl name k zs) (hgl:ρ.gl=gl) (g:Gam ρ B h n φ w):Lib.TabIs P w name k zs:=by
 obtain ⟨b,e,fr,h1,h2⟩:=t
 obtain ⟨_,h3⟩:=g.glob b _ e fr (by rw [hgl]; exact h2)
 unfold Lib.TabIs World.var?
 rw [h1,Option.bind_some,h3]
def SB (w:World) (l:List Nat):Cd:=fun b=>if b∈l then (match w.heap[b]? with | some (.cells c e fr)=>some (c,e,fr) | _=>none) else none
theorem TB {P:Program} {fs:List Nat} {w:World} {l:List Nat}:TO (KB P fs (SB w l)) w:=fun b c e fr h=>by
 have h:SB w l b=some (c,e,fr):=h
 unfold SB at h
 split at h
 ·split at h
  ·rename_i c' e' fr' hw
   cases h
   refine ⟨?_,hw⟩
   rcases Nat.lt_or_ge b w.heap.size with hb | hb
   ·exact hb
   ·rw [Array.getElem?_eq_none hb] at hw; cases hw
  ·cases h
 ·cases h
theorem OV.of {w:World} {l:List Nat} {g:Nat} {name:String} {k:IntKind} {zs:List Int} (hg:P.globalNamed name=some g) (hl:g∈l) (h:Lib.TabIs P w name k zs):OV P (SB w l) name k zs:=by
 unfold Lib.TabIs World.var? at h
 rw [hg,Option.bind_some] at h
 split at h
 ·rename_i c e fr hw
  cases h
  refine ⟨g,e,fr,hg,?_⟩
  unfold SB
  rw [if_pos hl,hw]
 ·cases h
def Vo (m:Nat):Nat->Nat:=@Nat.rec (fun _=>Nat->Nat) (fun _=>1) (fun _ ih u=>br (Nat.ble (Nat.succ u) 10) 1 (Nat.succ (ih (Nat.div u 10)))) m
theorem P8:∀ (m u:Nat),u<10 ^ (m+1)->Vo m u=Lib.nDigits u
 | 0,u,h=>by rw [Lib.nDigits_small (by simpa using h)]; rfl
 | m+1,u,h=>by
  have e:Vo (m+1) u=br (Nat.ble (Nat.succ u) 10) 1 (Nat.succ (Vo m (u / 10))):=rfl
  rw [e]
  by_cases hu:u<10
  ·rw [Ar.2 (by omega),AZ,Lib.nDigits_small hu]
  ·rw [Bm (by omega),B2,Lib.nDigits_big hu,P8 m (u / 10) (by rw [Nat.pow_succ] at h; omega)]
theorem Pt {u:Nat} (h:u<18446744073709551616):Lib.nDigits u≤20:=by
 rw [←P8 19 u (by omega)]
 have:∀ (m u:Nat),Vo m u≤m+1:=by
  intro m
  induction m with
  | zero=>intro u; exact Nat.le_refl _
  | succ m ih =>
   intro u
   have e:Vo (m+1) u=br (Nat.ble (Nat.succ u) 10) 1 (Nat.succ (Vo m (u / 10))):=rfl
   rw [e]
   cases Nat.ble (Nat.succ u) 10 with
   | true=>show 1≤_; omega
   | false=>have:=ih (u / 10); show Nat.succ _≤_; omega
 exact this 19 u
def Il:IG:=fun args h n =>
 G9 args fun x l=>OC l (G3 x fun k r=>br (Bn k .u64) (br (Nat.ble 1 r) (Ak (Vo 19 r) fun i=>.rv (.int .i64 i) h n) (.fail "")) (.fail ""))
def NV (P:Program) (f:FuncId):Prop:=∀ (u:Nat),1≤u->u<18446744073709551616->∀ w:World,Lib.TabIs P w "internal/strconv.uint64pow10" .u64 Lib.pow10Tab->Calls P f #[.int .u64 u] w fun e w'=>e = .returned (.int .i64 (Lib.nDigits u))∧w'=w
theorem Lu {f:FuncId} {fn:Func} {gl:Cd} (hf:P.funcs[f]? = some fn) (hb:fn.body.isSome=true) (hn:(fn.name == "runtime.NumGoroutine")=false) (hS:NV P f) (hgl:ρ.gl=gl) (ht:OV P gl "internal/strconv.uint64pow10" .u64 Lib.pow10Tab):Hg P ρ B f Il:=by
 intro args h n v h1 n1 hx φ w xs g hr
 have hg:(Il args h n).good:=by rw [hx]; trivial
 unfold Il at hx hg
 obtain ⟨x,l,rfl,q1⟩:=Eu hg
 rw [q1] at hx hg
 obtain ⟨rfl,q2⟩:=I5 hg
 rw [q2] at hx
 obtain ⟨k,r,rfl,hx⟩:=Py hx
 obtain ⟨hk,hx⟩:=Ml hx
 obtain rfl:=Bi.1 hk
 obtain ⟨h1',hx⟩:=Ml hx
 have h1':=Ar.1 h1'
 rw [Ai] at hx
 cases hx
 obtain ⟨X,ys,hX,r0,hr⟩:=AJ.1 hr
 obtain rfl:=AT.1 hr
 obtain ⟨hlt,rfl⟩:=Cb r0
 have hlt:r<18446744073709551616:=hlt
 have hxs:xs = #[.int .u64 (C3 .u64 r)]:=by cases xs; simp at hX; rw [hX]
 subst hxs
 rw [show C3 .u64 r=(r:Int) from AI (by simp only [Hk]; exact hlt)]
 obtain ⟨c,hc⟩:=Option.isSome_iff_exists.1 hb
 refine KX hf hc hn ((hS r h1' hlt w (ht.is hgl g)).mono fun e w' ⟨he,hw⟩=>⟨_,he,?_⟩)
 subst hw
 refine ⟨φ,Fr.refl h φ n _,g,?_⟩
 rw [P8 19 r (by omega)]
 have:=Pt hlt
 simp only [AL]
 generalize Lib.nDigits r=d at this
 exact ⟨by simp only [Mk]; omega,congrArg (Value.int .i64) (AI (k:=.i64) (by simp only [Hk]; omega)).symm⟩
end
theorem Jb {P:Program} {w:World}:∀ {l:List (String×DataW Unit)} {ps:List MemPlace},DataW.LaidVars P w l ps->∀ {name:String} {d:DataW Unit},(name,d)∈l →
  ∃ g t cs fuel p,P.globalNamed name=some g∧(P.globals[g]?).map (·.type)=some t∧w.var? P name=some cs∧DataW.trod (fun _=>()) P w 0 (fun _=>true) false fuel t cs.toList=some (d,p)
 | [],_,_,_,_,hm=>by cases hm
 | (n,d)::r,ps,h,name,d',hm=>by
  obtain ⟨g,t,cs,fuel,p,q,h1,h2,h3,h4,h5,_⟩:=h
  rcases List.mem_cons.1 hm with e | e
  ·cases e; exact ⟨g,t,cs,fuel,p,h1,h2,h3,h4⟩
  ·exact Jb h5 e
theorem ME {P:Program} {W:World} {name:String} {k:IntKind} {zs:List Int} {l:List (String×DataW Unit)} {g:Nat} {t e:TypeId} {n:Nat}
  (hg:P.globalNamed name=some g) (hty:(P.globals[g]?).map (·.type)=some t) (ht:P.underlying t=some (.array n e)) (he:P.underlying e=some (.int k)) (hce:P.cellsOf e=1) (hct:P.cellsOf t=n)
  (hm:(name,Lib.tabData k zs)∈l) (h:laidMet P l W):Lib.TabIs P W name k zs:=by
 obtain ⟨ps,hv,_⟩:=h
 obtain ⟨g',t',cs,fuel,p,hg',ht',hvar,hd⟩:=Jb hv hm
 obtain rfl:=Option.some.inj (hg.symm.trans hg')
 obtain rfl:=Option.some.inj (hty.symm.trans ht')
 unfold Lib.TabIs
 rw [hvar,←Lib.cells_of_tab ht he hce hct hd]
end Go.Ev

namespace Go.Ev
set_option linter.unusedVariables false
open Go.RowKit
def RB (x y:V):Bool :=
 @V.rec (fun _=>Bool) (fun _=>Unit) (fun k r=>@V.rec (fun _=>Bool) (fun _=>Unit) (fun j b=>br (Bn k j) (Nat.beq r b) false) (fun _=>false) (fun _ _=>false) (fun _ _ _ _ _ _=>false) (fun _ _=>false) (fun _ _=>false) (fun _=>false) (fun _=>false) (fun _ _ _=>false) (fun _ _=>false) (fun _=>false) () (fun _ _ _ _=>()) y)
  (fun p=>@V.rec (fun _=>Bool) (fun _=>Unit) (fun _ _=>false) (fun q=>br p q (br q false true)) (fun _ _=>false) (fun _ _ _ _ _ _=>false) (fun _ _=>false) (fun _ _=>false) (fun _=>false) (fun _=>false) (fun _ _ _=>false) (fun _ _=>false) (fun _=>false) () (fun _ _ _ _=>()) y)
  (fun _ _=>false) (fun _ _ _ _ _ _=>false)
  (fun n c=>@V.rec (fun _=>Bool) (fun _=>Unit) (fun _ _=>false) (fun _=>false) (fun _ _=>false) (fun _ _ _ _ _ _=>false) (fun m d=>br (Nat.beq n m) (Nat.beq c d) false) (fun _ _=>false) (fun _=>false) (fun _=>false) (fun _ _ _=>false) (fun _ _=>false) (fun _=>false) () (fun _ _ _ _=>()) y)
  (fun _ _=>false) (fun _=>false) (fun _=>false) (fun _ _ _=>false) (fun _ _=>false) (fun _=>false) () (fun _ _ _ _=>()) x
def NE (v:V):Prop:=∀ (ρ:Env) (φ φ':B9) x,AL ρ φ v x->AL ρ φ' v x
theorem Q8 {c x:Bool} (h:br c x false=true):c=true∧x=true:=by cases c; cases h; exact ⟨rfl,h⟩
theorem Q2 {x y:V} (h:RB x y=true):x=y∧NE x:=by
 cases x with
 | int k r=>cases y with
  | int j b =>
   obtain ⟨h1,h2⟩:=Q8 (show br (Bn k j) (Nat.beq r b) false=true from h)
   rw [Bi.1 h1,Nat.eq_of_beq_eq_true h2]
   exact ⟨rfl,fun ρ φ φ' x hx=>by simpa only [AL] using hx⟩
  | _=>cases h
 | bool p=>cases y with
  | bool q =>
   have h:br p q (br q false true)=true:=h
   have:p=q:=by cases p <;> cases q <;> first | rfl | cases h
   rw [this]
   exact ⟨rfl,fun ρ φ φ' x hx=>by simpa only [AL] using hx⟩
  | _=>cases h
 | str n c=>cases y with
  | str m d =>
   obtain ⟨h1,h2⟩:=Q8 (show br (Nat.beq n m) (Nat.beq c d) false=true from h)
   rw [Nat.eq_of_beq_eq_true h1,Nat.eq_of_beq_eq_true h2]
   exact ⟨rfl,fun ρ φ φ' x hx=>by simpa only [AL] using hx⟩
  | _=>cases h
 | _=>cases h
def O2 (l:List V):List V->Bool :=
 @List.rec V (fun _=>List V->Bool) (fun r=>@List.rec V (fun _=>Bool) true (fun _ _ _=>false) r) (fun x _ ih r=>@List.rec V (fun _=>Bool) false (fun y r _=>br (RB x y) (ih r) false) r) l
theorem NH:∀ {l r:List V},O2 l r=true->l=r ∧ ∀ x∈l,NE x
 | [],[],_=>⟨rfl,fun x hx=>by cases hx⟩
 | [],_::_,h=>by cases h
 | _::_,[],h=>by cases h
 | x::l,y::r,h=>by
  obtain ⟨h1,h2⟩:=Q8 (show br (RB x y) (O2 l r) false=true from h)
  obtain ⟨rfl,p⟩:=Q2 h1
  obtain ⟨rfl,q⟩:=NH h2
  exact ⟨rfl,fun z hz=>by
   rcases List.mem_cons.1 hz with rfl | hz
   ·exact p
   ·exact q z hz⟩
def Yj (v:V) (r:R):Bool:=@R.rec (fun _=>Bool) (fun _ _ _ _=>false) (fun u _ _=>RB u v) (fun _=>false) (fun _ _ _ _=>false) r
theorem UT {v:V} {r:R} (h:Yj v r=true):(∃ h1 n1,r = .rv v h1 n1)∧NE v:=by
 cases r with
 | rv u h1 n1=>obtain ⟨rfl,p⟩:=Q2 (show RB u v=true from h); exact ⟨⟨h1,n1,rfl⟩,p⟩
 | _=>cases h
abbrev NX:=List (List V×V)
def IT (l:NX):IG :=
 @List.rec (List V×V) (fun _=>IG) (C2 "") (fun e _ ih args h n=>@Prod.rec (List V) V (fun _=>R) (fun a v=>br (O2 args a) (.rv v h n) (ih args h n)) e) l
theorem NY:∀ {l:NX} {args:List V} {h:Heap} {n:K4} {v:V} {h1:Heap} {n1:K4},IT l args h n = .rv v h1 n1->h1=h∧n1=n∧(args,v)∈l ∧ ∀ x∈args,NE x
 | [],args,h,n,v,h1,n1,hx=>by cases hx
 | (a,u)::l,args,h,n,v,h1,n1,hx=>by
  have e0:IT ((a,u)::l) args h n=br (O2 args a) (R.rv u h n) (IT l args h n):=rfl
  rw [e0] at hx
  clear e0
  cases hb:O2 args a with
  | true =>
   rw [hb,AZ] at hx
   obtain ⟨e1,p⟩:=NH hb
   cases hx
   exact ⟨rfl,rfl,by rw [e1]; exact List.mem_cons_self ..,p⟩
  | false =>
   rw [hb] at hx
   obtain ⟨h1,h2,h3,h4⟩:=NY (show IT l args h n=_ from hx)
   exact ⟨h1,h2,List.mem_cons_of_mem _ h3,h4⟩
def Hq (T:FC) (m:Nat) (f:FuncId) (l:NX):Prop:=∀ a v,(a,v)∈l->Yj v (E5 T m (BA f) a AF Em)=true
theorem JD {T:FC} {m:Nat} {f:FuncId}:Hq T m f []:=fun a v h=>by cases h
theorem Ft {T:FC} {m:Nat} {f:FuncId} {a:List V} {v:V} {l:NX} (h:Yj v (E5 T m (BA f) a AF Em)=true) (k:Hq T m f l):Hq T m f ((a,v)::l):=fun a' v' h'=>by
 rcases List.mem_cons.1 h' with e | e
 ·cases e; exact h
 ·exact k a' v' e
section
variable {P:Program} {ρ:Env} {B:Nat}
theorem Gam.below {h:Heap} {n:K4} {φ:B9} {w w':World} (g:Gam ρ B h n φ w) (b:Below w.heap.size w w'):Gam ρ B h n φ w'∧Fr h h φ φ n n w w':=by
 obtain ⟨b1,b2,b3,b4,b5⟩:=b
 refine ⟨⟨Nat.le_trans g.base b4,g.dom,fun p b s t hp=>⟨(g.blk p b s t hp).1,Nat.lt_of_lt_of_le (g.blk p b s t hp).2 b4⟩,fun p o b s t ho hp=>C9 (b5 b (g.blk p b s t hp).2) (g.obj p o b s t ho hp),g.sep,g.sup,
  fun b c e fr hb=>⟨(g.glob b c e fr hb).1,by rw [b5 b (Nat.lt_of_lt_of_le (g.glob b c e fr hb).1 g.base)]; exact (g.glob b c e fr hb).2⟩⟩,
  ⟨B9.le_refl φ,fun _ _ h=>.inl h,Nat.le_refl _,b1,b2,b3,b4,fun b hb _=>b5 b hb,fun _ _ _ _ h=>.inl h,fun _ _ h=>h⟩⟩
theorem Kq {φ φ':B9}:∀ {l:List V} {xs:List Value},(∀ x∈l,NE x)->Bs ρ φ l xs->Bs ρ φ' l xs
 | [],xs,_,h=>by rw [AT] at h ⊢; exact h
 | v::l,xs,p,h=>by
  rw [AJ] at h ⊢
  obtain ⟨y,ys,e,h1,h2⟩:=h
  exact ⟨y,ys,e,p v (List.mem_cons_self ..) ρ φ φ' y h1,Kq (fun x hx=>p x (List.mem_cons_of_mem _ hx)) h2⟩
theorem N8 (hρ:Bo ρ) (hm:P.follows .mixedOrders=true) {T:FC} (hT:∀ B,H3 P ρ B T) {m:Nat} {f:FuncId} {l:NX} (hl:Hq T m f l):Hg P ρ B f (IT l):=by
 intro args h n v h1 n1 hx φ w xs g hr
 obtain ⟨rfl,rfl,hmem,hp⟩:=NY hx
 obtain ⟨⟨h2,n2,hc⟩,hv⟩:=UT (hl _ _ hmem)
 intro o a K Q hK
 refine SW (B:=w.heap.size) hρ hm (hT _) m f args AF Em _ h2 n2 hc (fun _=>none) w xs (Ld w Em fun b c e fr hb=>⟨Nat.lt_of_lt_of_le (g.glob b c e fr hb).1 g.base,(g.glob b c e fr hb).2⟩) (Kq hp hr) o a K Q fun x w' ⟨φ',f1,_,hr1⟩=>hK x w' ?_
 obtain ⟨g2,f2⟩:=g.below (Nq f1)
 exact ⟨φ,f2,g2,hv ρ φ' φ x hr1⟩
end
theorem T8 {a:Int} (h:(Lit.int .i64 a).wf=true) : -9223372036854775808≤a∧a<9223372036854775808:=by
 simp [Lit.wf,IntKind.min,IntKind.max,IntKind.signed,IntKind.bits] at h
 omega
theorem Rx {ρ:Env} {φ:B9} {a:Int} {lo:Nat} (h:(lo:Int)≤a) (h2:a<9223372036854775808):AL ρ φ (.oth (.iv .i64 lo 9223372036854775807)) (.int .i64 a):=by
 simp only [AL]
 refine ⟨a.toNat,by omega,by omega,by simp only [Mk]; omega,?_⟩
 rw [AI (by simp only [Hk]; omega)]
 congr 1; omega
theorem Px {ρ:Env} {φ:B9} {a:Int} (h:a<0) (h2 : -9223372036854775808≤a):AL ρ φ (.oth (.iv .i64 9223372036854775808 18446744073709551615)) (.int .i64 a):=by
 simp only [AL]
 refine ⟨(a+18446744073709551616).toNat,by omega,by omega,by simp only [Mk]; omega,?_⟩
 rw [Dr (by simp only [Hk]; omega)]
 congr 1; simp only [Mk]; omega
theorem FV {ρ:Env} {φ:B9} {a:Int} (h : -9223372036854775808≤a) (h2:a<9223372036854775808):AL ρ φ (.oth (.iv .i64 0 18446744073709551615)) (.int .i64 a):=by
 by_cases h0:a<0
 ·have:=Px (ρ:=ρ) (φ:=φ) h0 h
  simp only [AL] at this ⊢
  obtain ⟨r,h1,h2,h3,h4⟩:=this
  exact ⟨r,Nat.zero_le _,h2,h3,h4⟩
 ·have:=Rx (ρ:=ρ) (φ:=φ) (lo:=0) (a:=a) (by omega) h2
  simp only [AL] at this ⊢
  obtain ⟨r,h1,h2,h3,h4⟩:=this
  exact ⟨r,Nat.zero_le _,by omega,h3,h4⟩
def KM (r:R):Bool:=@R.rec (fun _=>Bool) (fun _ _ _ _=>false) (fun v _ _=>VV v) (fun _=>false) (fun _ _ x y=>br x y false) r
theorem JQ:∀ {r:R},KM r=true->r.sat (fun x=>∃ h n,x = .rv (.bool true) h n)
 | .ok _ _ _ _,h=>by cases h
 | .fail _,h=>by cases h
 | .rv v h n,hx=>by
  cases v with
  | bool b=>have:b=true:=hx; subst this; exact ⟨h,n,rfl⟩
  | _=>cases hx
 | .both a b,hx=>by
  obtain ⟨h1,h2⟩:=Q8 (show br (KM a) (KM b) false=true from hx)
  exact ⟨JQ h1,JQ h2⟩
end Go.Ev

namespace Go.Ev
set_option linter.unusedVariables false
def Uq (o:Ch) (κ0:R) (κ:K4->R):R :=
 @Option.rec Ob (fun _=>R) κ0 (fun o=>@Ob.rec (fun _=>R) (fun _ _ _=>κ0) (fun _ _ _=>κ0) (fun q _ _ _=>κ q) κ0 (fun _ _=>κ0) o) o
def N9:Ch->Option K4
 | some (.it q _ _ _)=>some q
 | _=>none
theorem RT (o:Ch) (κ0:R) (κ:K4->R):Uq o κ0 κ=match N9 o with | some q=>κ q | none=>κ0:=by
 cases o with
 | none=>rfl
 | some o=>cases o <;> rfl
def Ho (m:Heap) (p:K4):Option K4:=N9 (AM p m)
def PF (m:Heap) (p:K4) (κ0:R) (κ:K4->R):R:=Br p m fun o=>Uq o κ0 κ
theorem MI {m:Heap} {p:K4} {κ0:R} {κ:K4->R}:PF m p κ0 κ=match Ho m p with | some q=>κ q | none=>κ0:=by
 unfold PF Ho
 rw [BC,RT]
def TG:Ot->V
 | .yl _=>.oth .any
 | o=>.oth o
mutual
def Ff (m:Heap):V->V
 | .int k r=>.int k r
 | .bool b=>.bool b
 | .ptr p off=>match Ho m p with | some q=>.ptr q off | none=>.oth .any
 | .sl p off len cap ex esz=>match Ho m p with | some q=>.sl q off len cap ex esz | none=>.oth .any
 | .str n c=>.str n c
 | .agg l=>.agg (Iv m l)
 | .nil w=>.nil w
 | .map p=>match Ho m p with | some q=>.map q | none=>.oth .any
 | .fn f l=>.fn f (Iv m l)
 | .tup l=>.tup (Iv m l)
 | .oth o=>TG o
def Iv (m:Heap):List V->List V
 | []=>[]
 | v::l=>Ff m v::Iv m l
end
def Ud (o:Ot) (κ:V->R):R :=
 @Ot.rec (fun _=>R) (κ (.oth o)) (fun _=>κ (.oth o)) (fun _=>κ (.oth .any)) (κ (.oth o)) (fun _ _ _=>κ (.oth o)) (fun _ _=>κ (.oth o)) (κ (.oth o)) (fun _ _=>κ (.oth o)) (fun _ _ _ _=>κ (.oth o)) (fun _ _ _ _=>κ (.oth o)) (fun _ _ _=>κ (.oth o)) (fun _ _=>κ (.oth o)) o
theorem Uf (o:Ot) (κ:V->R):Ud o κ=κ (TG o):=by cases o <;> rfl
def Qh (m:Heap) (v:V):(V->R)->R :=
 @V.rec (fun _=>(V->R)->R) (fun _=>(List V->R)->R)
 (fun k r κ=>κ (.int k r)) (fun b κ=>κ (.bool b)) (fun p off κ=>PF m p (κ (.oth .any)) fun q=>κ (.ptr q off)) (fun p off len cap ex esz κ=>PF m p (κ (.oth .any)) fun q=>κ (.sl q off len cap ex esz)) (fun n c κ=>κ (.str n c)) (fun _ ih κ=>ih fun l=>κ (.agg l)) (fun w κ=>κ (.nil w)) (fun p κ=>PF m p (κ (.oth .any)) fun q=>κ (.map q)) (fun f _ ih κ=>ih fun l=>κ (.fn f l)) (fun _ ih κ=>ih fun l=>κ (.tup l)) (fun o κ=>Ud o κ)
 (fun κ=>κ []) (fun _ _ ihx ihl κ=>ihx fun x=>ihl fun l=>κ (x::l)) v
def UO (m:Heap) (l:List V):(List V->R)->R :=
 @V.rec_1 (fun _=>(V->R)->R) (fun _=>(List V->R)->R)
 (fun k r κ=>κ (.int k r)) (fun b κ=>κ (.bool b)) (fun p off κ=>PF m p (κ (.oth .any)) fun q=>κ (.ptr q off)) (fun p off len cap ex esz κ=>PF m p (κ (.oth .any)) fun q=>κ (.sl q off len cap ex esz)) (fun n c κ=>κ (.str n c)) (fun _ ih κ=>ih fun l=>κ (.agg l)) (fun w κ=>κ (.nil w)) (fun p κ=>PF m p (κ (.oth .any)) fun q=>κ (.map q)) (fun f _ ih κ=>ih fun l=>κ (.fn f l)) (fun _ ih κ=>ih fun l=>κ (.tup l)) (fun o κ=>Ud o κ)
 (fun κ=>κ []) (fun _ _ ihx ihl κ=>ihx fun x=>ihl fun l=>κ (x::l)) l
mutual
theorem Hr (m:Heap):∀ (v:V) (κ:V->R),Qh m v κ=κ (Ff m v)
 | .int _ _,κ=>by simp only [Ff]; rfl
 | .bool _,κ=>by simp only [Ff]; rfl
 | .ptr p off,κ=>by
  show PF m p _ _=_
  rw [MI]; simp only [Ff]
  cases Ho m p <;> rfl
 | .sl p _ _ _ _ _,κ=>by
  show PF m p _ _=_
  rw [MI]; simp only [Ff]
  cases Ho m p <;> rfl
 | .str _ _,κ=>by simp only [Ff]; rfl
 | .agg l,κ=>by
  show UO m l (fun l=>κ (.agg l))=_
  rw [JH m l]; simp only [Ff]
 | .nil _,κ=>by simp only [Ff]; rfl
 | .map p,κ=>by
  show PF m p _ _=_
  rw [MI]; simp only [Ff]
  cases Ho m p <;> rfl
 | .fn f l,κ=>by
  show UO m l (fun l=>κ (.fn f l))=_
  rw [JH m l]; simp only [Ff]
 | .tup l,κ=>by
  show UO m l (fun l=>κ (.tup l))=_
  rw [JH m l]; simp only [Ff]
 | .oth o,κ=>by
  show Ud o κ=_
  rw [Uf]; simp only [Ff]
theorem JH (m:Heap):∀ (l:List V) (κ:List V->R),UO m l κ=κ (Iv m l)
 | [],κ=>by simp only [Iv]; rfl
 | v::l,κ=>by
  show Qh m v (fun x=>UO m l fun l=>κ (x::l))=_
  rw [Hr m v,JH m l]; simp only [Iv]
end
theorem Nn (m:Heap):∀ l,Iv m l=l.map (Ff m)
 | []=>by simp [Iv]
 | v::l=>by simp only [Iv,List.map_cons]; rw [Nn m l]
section
variable {ρ:Env} {φ φ':B9} {m:Heap}
mutual
theorem JF (hφ:∀ p q x,Ho m p=some q->φ p=some x->φ' q=some x):∀ {v:V} {x:Value},AL ρ φ v x->AL ρ φ' (Ff m v) x
 | .int _ _,_,r=>by simp only [Ff]; simpa only [AL] using r
 | .bool _,_,r=>by simp only [Ff]; simpa only [AL] using r
 | .ptr p _,_,r=>by
  simp only [Ff]
  simp only [AL] at r
  obtain ⟨b,s,tot,hp,e⟩:=r
  cases hm:Ho m p with
  | none=>simp only [AL]
  | some q=>simp only [AL]; exact ⟨b,s,tot,hφ _ _ _ hm hp,e⟩
 | .sl p _ _ _ _ _,_,r=>by
  simp only [Ff]
  simp only [AL] at r
  obtain ⟨b,s,tot,o,c,hp,e⟩:=r
  cases hm:Ho m p with
  | none=>simp only [AL]
  | some q=>simp only [AL]; exact ⟨b,s,tot,o,c,hφ _ _ _ hm hp,e⟩
 | .str _ _,_,r=>by simp only [Ff]; simpa only [AL] using r
 | .agg l,_,r=>by
  simp only [Ff]
  simp only [AL] at r ⊢
  obtain ⟨cs,e,hl,hh⟩:=r
  exact ⟨cs,e,Ju hφ hl,hh⟩
 | .nil _,_,r=>by simp only [Ff]; simpa only [AL] using r
 | .map p,_,r=>by
  simp only [Ff]
  simp only [AL] at r
  obtain ⟨b,s,tot,hp,e⟩:=r
  cases hm:Ho m p with
  | none=>simp only [AL]
  | some q=>simp only [AL]; exact ⟨b,s,tot,hφ _ _ _ hm hp,e⟩
 | .fn _ l,_,r=>by
  simp only [Ff]
  simp only [AL] at r ⊢
  obtain ⟨cs,e,hl⟩:=r
  exact ⟨cs,e,Ju hφ hl⟩
 | .tup l,_,r=>by
  simp only [Ff]
  simp only [AL] at r ⊢
  obtain ⟨cs,e,hl⟩:=r
  exact ⟨cs,e,Ju hφ hl⟩
 | .oth o,_,r=>by
  simp only [Ff]
  cases o <;> simp only [TG,AL] at r ⊢ <;> exact r
theorem Ju (hφ:∀ p q x,Ho m p=some q->φ p=some x->φ' q=some x):∀ {l:List V} {xs:List Value},Bs ρ φ l xs->Bs ρ φ' (Iv m l) xs
 | [],_,r=>by simp only [Iv]; simpa only [Bs] using r
 | v::l,_,r=>by
  simp only [Iv]
  simp only [Bs] at r ⊢
  obtain ⟨y,ys,e,hy,hys⟩:=r
  exact ⟨y,ys,e,JF hφ hy,Ju hφ hys⟩
end
end
def Xo (m:Heap) (es:List (V×V)):(List (V×V)->R)->R :=
 @List.rec (V×V) (fun _=>(List (V×V)->R)->R) (fun κ=>κ []) (fun e _ ih κ=>@Prod.rec V V (fun _=>R) (fun x y=>Qh m x fun x=>Qh m y fun y=>ih fun l=>κ ((x,y)::l)) e) es
theorem RC (m:Heap):∀ (es:List (V×V)) (κ:List (V×V)->R),Xo m es κ=κ (es.map fun e=>(Ff m e.1,Ff m e.2))
 | [],κ=>rfl
 | (x,y)::es,κ=>by
  show Qh m x (fun x=>Qh m y fun y=>Xo m es fun l=>κ ((x,y)::l))=_
  rw [Hr,Hr,RC m es]; rfl
def RD (m:Heap) (o:Ob) (κ0:R) (κ:Ob->R):R :=
 @Ob.rec (fun _=>R) (fun cs _ _=>@Cs.rec (fun _=>R) (fun xs=>UO m xs fun xs=>κ (.c (.l xs) false none)) (fun n c=>κ (.c (.b n c) false none)) cs) (fun es bs clk=>Xo m es fun es=>κ (.m es bs clk)) (fun _ _ _ _=>κ0) κ0 (fun _ _=>κ0) o
def Ro (m:Heap):Ob->Option Ob
 | .c (.l xs) _ _=>some (.c (.l (xs.map (Ff m))) false none)
 | .c (.b n c) _ _=>some (.c (.b n c) false none)
 | .m es bs clk=>some (.m (es.map fun e=>(Ff m e.1,Ff m e.2)) bs clk)
 | _=>none
theorem Tq (m:Heap) (o:Ob) (κ0:R) (κ:Ob->R):RD m o κ0 κ=match Ro m o with | some o=>κ o | none=>κ0:=by
 cases o with
 | c cs sup prev =>
  cases cs with
  | l xs =>
   show UO m xs _=_
   rw [JH,Nn]; rfl
  | b n c=>rfl
 | m es bs clk =>
  show Xo m es _=_
  rw [RC]; rfl
 | it _ _ _ _=>rfl
 | it0=>rfl
 | lp _ _=>rfl
section
variable {ρ:Env} {φ φ':B9} {m:Heap} {w:World}
theorem Ua (hφ:∀ p q x,Ho m p=some q->φ p=some x->φ' q=some x) {es:List (V×V)}:∀ {l:List MapEntry},FJ ρ φ es l->FJ ρ φ' (es.map fun e=>(Ff m e.1,Ff m e.2)) l:=by
 induction es with
 | nil=>exact fun h=>h
 | cons e es ih=>rintro l ⟨y,ys,rfl,h1,h2,h3⟩; exact ⟨y,ys,rfl,JF hφ h1,JF hφ h2,ih h3⟩
theorem Tw (hφ:∀ p q x,Ho m p=some q->φ p=some x->φ' q=some x) {o o':Ob} {b s tot:Nat} (h:Fd ρ φ w o b s tot) (e:Ro m o=some o'):Fd ρ φ' w o' b s tot:=by
 cases o with
 | c cs sup prev =>
  cases cs with
  | l xs =>
   cases e
   obtain ⟨c,e,fr,h1,h2,h3,h4,h5⟩:=h
   refine ⟨c,e,fr,h1,h2,by simpa [Cs.len] using h3,h4,fun i v hv=>?_⟩
   have hv:(xs.map (Ff m))[i]? = some v:=hv
   rw [List.getElem?_map] at hv
   cases hx:xs[i]? with
   | none=>rw [hx] at hv; cases hv
   | some v0 =>
    rw [hx] at hv
    cases hv
    obtain ⟨x,k1,k2,k3⟩:=h5 i v0 hx
    exact ⟨x,k1,JF hφ k2,k3⟩
  | b n c =>
   cases e
   obtain ⟨c',e,fr,h1,h2,h3,h4,h5⟩:=h
   refine ⟨c',e,fr,h1,h2,h3,h4,fun i v hv=>?_⟩
   obtain ⟨x,k1,k2,k3⟩:=h5 i v hv
   refine ⟨x,k1,?_,k3⟩
   have hv:(if i<n then some (V.int .u8 (c / 256 ^ i % 256)) else none)=some v:=hv
   split at hv
   ·cases hv; simpa only [AL] using k2
   ·cases hv
 | m es bs clk =>
  cases e
  obtain ⟨ents,h1,h2,h3⟩:=h
  exact ⟨ents,h1,Ua hφ h2,h3⟩
 | it _ _ _ _=>cases e
 | it0=>cases e
 | lp _ _=>cases e
end
def T7 (acc:List K4):Heap->K4->(Heap->K4->R)->R :=
 @List.rec K4 (fun _=>Heap->K4->(Heap->K4->R)->R) (fun m q κ=>κ m q) (fun p _ ih m q κ=>BD p m (some (.it q 0 [] 0)) fun m=>q.nx fun q'=>ih m q' κ) acc
structure NumOK (m:Heap) (q:K4):Prop where
 lt:∀ p r,Ho m p=some r->r.toN<q.toN
 inj:∀ p p' r,Ho m p=some r->Ho m p'=some r->p=p'
theorem Qq {Φ:R->Prop}:∀ {acc:List K4} {m:Heap} {q:K4} {κ:Heap->K4->R},NumOK m q->(T7 acc m q κ).sat Φ->∃ m' q',NumOK m' q'∧(κ m' q').sat Φ
 | [],m,q,κ,ok,h=>⟨m,q,ok,h⟩
 | p::acc,m,q,κ,ok,h=>by
  have h:(BD p m (some (.it q 0 [] 0)) fun m=>q.nx fun q'=>T7 acc m q' κ).sat Φ:=h
  rw [BO,BB] at h
  rcases K4.nx_eq q (fun q'=>T7 acc (B6 p m (some (.it q 0 [] 0))) q' κ) with ⟨w,e⟩ | ⟨q',hq,e⟩
  ·rw [e] at h; exact h.elim
  rw [e] at h
  refine Qq ⟨fun p' r hr=>?_,fun p1 p2 r h1 h2=>?_⟩ h
  ·unfold Ho at hr
   by_cases e:p=p'
   ·subst e; rw [AG] at hr; cases hr; omega
   ·rw [Ay _ _ e] at hr; have:=ok.lt p' r hr; omega
  ·unfold Ho at h1 h2
   by_cases e1:p=p1
   ·by_cases e2:p=p2
    ·rw [←e1,←e2]
    ·subst e1
     rw [AG] at h1
     rw [Ay _ _ e2] at h2
     cases h1
     have:=ok.lt p2 q h2; omega
   ·rw [Ay _ _ e1] at h1
    by_cases e2:p=p2
    ·subst e2
     rw [AG] at h2
     cases h2
     have:=ok.lt p1 q h1; omega
    ·rw [Ay _ _ e2] at h2
     exact ok.inj p1 p2 r h1 h2
def Ic (hs m:Heap) (acc:List K4):Heap->(Heap->R)->R :=
 @List.rec K4 (fun _=>Heap->(Heap->R)->R) (fun h κ=>κ h)
  (fun p _ ih h κ=>Br p hs fun o=>@Option.rec Ob (fun _=>R) (ih h κ) (fun ob=>PF m p (ih h κ) fun q=>RD m ob (ih h κ) fun ob=>BD q h (some ob) fun h=>ih h κ) o) acc
def Ny (hs m h:Heap):Prop:=∀ q o',AM q h=some o'->∃ p o,Ho m p=some q∧AM p hs=some o∧Ro m o=some o'
theorem HM {hs m:Heap}:∀ {acc:List K4} {h:Heap} {κ:Heap->R},Ny hs m h->∃ h',Ny hs m h'∧Ic hs m acc h κ=κ h'
 | [],h,κ,ok=>⟨h,ok,rfl⟩
 | p::acc,h,κ,ok=>by
  have e:Ic hs m (p::acc) h κ=Br p hs fun o=>@Option.rec Ob (fun _=>R) (Ic hs m acc h κ) (fun ob=>PF m p (Ic hs m acc h κ) fun q=>RD m ob (Ic hs m acc h κ) fun ob=>BD q h (some ob) fun h=>Ic hs m acc h κ) o:=rfl
  rw [e,BC]
  cases h1:AM p hs with
  | none=>exact HM ok
  | some ob =>
   show ∃ h',Ny hs m h'∧(PF m p (Ic hs m acc h κ) fun q=>RD m ob (Ic hs m acc h κ) fun ob=>BD q h (some ob) fun h=>Ic hs m acc h κ)=κ h'
   rw [MI]
   cases h2:Ho m p with
   | none=>exact HM ok
   | some q =>
    show ∃ h',Ny hs m h'∧(RD m ob (Ic hs m acc h κ) fun ob=>BD q h (some ob) fun h=>Ic hs m acc h κ)=κ h'
    rw [Tq]
    cases h3:Ro m ob with
    | none=>exact HM ok
    | some ob' =>
     show ∃ h',Ny hs m h'∧(BD q h (some ob') fun h=>Ic hs m acc h κ)=κ h'
     rw [BO,BB]
     refine HM fun q' o' hq=>?_
     rcases By hq with ⟨rfl,e⟩ | ⟨hne,hq⟩
     ·cases e; exact ⟨p,ob,h2,h1,h3⟩
     ·exact ok q' o' hq
def Th (y a:V) (κ:V->R):R:=Al y (κ a) (κ (.oth .any))
def NG (y x:SQ) (κ:SQ->R):R :=
 @SQ.rec (fun _=>R) (fun y0 y1 y2 y3=>@SQ.rec (fun _=>R) (fun a b c d=>Th y0 a fun a=>Th y1 b fun b=>Th y2 c fun c=>Th y3 d fun d=>κ (.mk a b c d)) x) y
def mkT (y x:S) (κ:S->R):R :=
 @S.rec (fun _=>R) (fun y0 y1 y2 y3 y4 y5 y6 y7=>@S.rec (fun _=>R) (fun a0 a1 a2 a3 a4 a5 a6 a7=>NG y0 a0 fun a0=>NG y1 a1 fun a1=>NG y2 a2 fun a2=>NG y3 a3 fun a3=>NG y4 a4 fun a4=>NG y5 a5 fun a5=>NG y6 a6 fun a6=>NG y7 a7 fun a7=>κ (.mk a0 a1 a2 a3 a4 a5 a6 a7)) x) y
def ZV (a b:V):Prop:=b=a∨b = .oth .any
theorem Nh {y a:V} {κ:V->R} {Φ:R->Prop} (h:(Th y a κ).sat Φ):∃ b,ZV a b∧(κ b).sat Φ:=by
 unfold Th at h
 cases y with
 | bool q =>
  cases q with
  | true=>exact ⟨a,.inl rfl,h⟩
  | false=>exact ⟨_,.inr rfl,h⟩
 | oth o=>cases o with
  | bl=>exact ⟨a,.inl rfl,(show (R.both (κ a) (κ (.oth .any))).sat Φ from h).1⟩
  | _=>exact (show False from h).elim
 | _=>exact (show False from h).elim
def Zd (a b:SQ):Prop:=∀ d,ZV (SQ.sel d a) (SQ.sel d b)
theorem Gz {y x:SQ} {κ:SQ->R} {Φ:R->Prop} (h:(NG y x κ).sat Φ):∃ b,Zd x b∧(κ b).sat Φ:=by
 obtain ⟨y0,y1,y2,y3⟩:=y
 obtain ⟨a,b,c,d⟩:=x
 have h:(Th y0 a fun a=>Th y1 b fun b=>Th y2 c fun c=>Th y3 d fun d=>κ (.mk a b c d)).sat Φ:=h
 obtain ⟨a',ha,h⟩:=Nh h
 obtain ⟨b',hb,h⟩:=Nh h
 obtain ⟨c',hc,h⟩:=Nh h
 obtain ⟨d',hd,h⟩:=Nh h
 exact ⟨_,fun d=>by cases d <;> assumption,h⟩
def Yn (a b:S):Prop:=∀ s:SL,ZV (S.get s a) (S.get s b)
theorem Vd {y x:S} {κ:S->R} {Φ:R->Prop} (h:(mkT y x κ).sat Φ):∃ b,Yn x b∧(κ b).sat Φ:=by
 obtain ⟨y0,y1,y2,y3,y4,y5,y6,y7⟩:=y
 obtain ⟨a0,a1,a2,a3,a4,a5,a6,a7⟩:=x
 have h:(NG y0 a0 fun a0=>NG y1 a1 fun a1=>NG y2 a2 fun a2=>NG y3 a3 fun a3=>NG y4 a4 fun a4=>NG y5 a5 fun a5=>NG y6 a6 fun a6=>NG y7 a7 fun a7=>κ (.mk a0 a1 a2 a3 a4 a5 a6 a7)).sat Φ:=h
 obtain ⟨b0,h0,h⟩:=Gz h
 obtain ⟨b1,h1,h⟩:=Gz h
 obtain ⟨b2,h2,h⟩:=Gz h
 obtain ⟨b3,h3,h⟩:=Gz h
 obtain ⟨b4,h4,h⟩:=Gz h
 obtain ⟨b5,h5,h⟩:=Gz h
 obtain ⟨b6,h6,h⟩:=Gz h
 obtain ⟨b7,h7,h⟩:=Gz h
 refine ⟨_,fun s=>?_,h⟩
 obtain ⟨a,b⟩:=s
 cases a
 ·exact h0 b
 ·exact h1 b
 ·exact h2 b
 ·exact h3 b
 ·exact h4 b
 ·exact h5 b
 ·exact h6 b
 ·exact h7 b
def EQ (m:Heap) (x:SQ) (κ:SQ->R):R :=
 @SQ.rec (fun _=>R) (fun a b c d=>Qh m a fun a=>Qh m b fun b=>Qh m c fun c=>Qh m d fun d=>κ (.mk a b c d)) x
def Wm (m:Heap) (x:S) (κ:S->R):R :=
 @S.rec (fun _=>R) (fun a0 a1 a2 a3 a4 a5 a6 a7=>EQ m a0 fun a0=>EQ m a1 fun a1=>EQ m a2 fun a2=>EQ m a3 fun a3=>EQ m a4 fun a4=>EQ m a5 fun a5=>EQ m a6 fun a6=>EQ m a7 fun a7=>κ (.mk a0 a1 a2 a3 a4 a5 a6 a7)) x
theorem GG {m:Heap} {x:SQ} {κ:SQ->R}:∃ y,(∀ d,SQ.sel d y=Ff m (SQ.sel d x))∧EQ m x κ=κ y:=by
 obtain ⟨a,b,c,d⟩:=x
 refine ⟨.mk (Ff m a) (Ff m b) (Ff m c) (Ff m d),fun d=>by cases d <;> rfl,?_⟩
 show (Qh m a fun a=>Qh m b fun b=>Qh m c fun c=>Qh m d fun d=>κ (.mk a b c d))=_
 rw [Hr,Hr,Hr,Hr]
theorem V1 {m:Heap} {x:S} {κ:S->R}:∃ y,(∀ s:SL,S.get s y=Ff m (S.get s x))∧Wm m x κ=κ y:=by
 obtain ⟨a0,a1,a2,a3,a4,a5,a6,a7⟩:=x
 have e:Wm m (.mk a0 a1 a2 a3 a4 a5 a6 a7) κ=EQ m a0 fun a0=>EQ m a1 fun a1=>EQ m a2 fun a2=>EQ m a3 fun a3=>EQ m a4 fun a4=>EQ m a5 fun a5=>EQ m a6 fun a6=>EQ m a7 fun a7=>κ (.mk a0 a1 a2 a3 a4 a5 a6 a7):=rfl
 rw [e]
 obtain ⟨y0,h0,e⟩:=GG (m:=m) (x:=a0) (κ:=fun a0=>EQ m a1 fun a1=>EQ m a2 fun a2=>EQ m a3 fun a3=>EQ m a4 fun a4=>EQ m a5 fun a5=>EQ m a6 fun a6=>EQ m a7 fun a7=>κ (.mk a0 a1 a2 a3 a4 a5 a6 a7))
 rw [e]
 obtain ⟨y1,h1,e⟩:=GG (m:=m) (x:=a1) (κ:=fun a1=>EQ m a2 fun a2=>EQ m a3 fun a3=>EQ m a4 fun a4=>EQ m a5 fun a5=>EQ m a6 fun a6=>EQ m a7 fun a7=>κ (.mk y0 a1 a2 a3 a4 a5 a6 a7))
 rw [e]
 obtain ⟨y2,h2,e⟩:=GG (m:=m) (x:=a2) (κ:=fun a2=>EQ m a3 fun a3=>EQ m a4 fun a4=>EQ m a5 fun a5=>EQ m a6 fun a6=>EQ m a7 fun a7=>κ (.mk y0 y1 a2 a3 a4 a5 a6 a7))
 rw [e]
 obtain ⟨y3,h3,e⟩:=GG (m:=m) (x:=a3) (κ:=fun a3=>EQ m a4 fun a4=>EQ m a5 fun a5=>EQ m a6 fun a6=>EQ m a7 fun a7=>κ (.mk y0 y1 y2 a3 a4 a5 a6 a7))
 rw [e]
 obtain ⟨y4,h4,e⟩:=GG (m:=m) (x:=a4) (κ:=fun a4=>EQ m a5 fun a5=>EQ m a6 fun a6=>EQ m a7 fun a7=>κ (.mk y0 y1 y2 y3 a4 a5 a6 a7))
 rw [e]
 obtain ⟨y5,h5,e⟩:=GG (m:=m) (x:=a5) (κ:=fun a5=>EQ m a6 fun a6=>EQ m a7 fun a7=>κ (.mk y0 y1 y2 y3 y4 a5 a6 a7))
 rw [e]
 obtain ⟨y6,h6,e⟩:=GG (m:=m) (x:=a6) (κ:=fun a6=>EQ m a7 fun a7=>κ (.mk y0 y1 y2 y3 y4 y5 a6 a7))
 rw [e]
 obtain ⟨y7,h7,e⟩:=GG (m:=m) (x:=a7) (κ:=fun a7=>κ (.mk y0 y1 y2 y3 y4 y5 y6 a7))
 rw [e]
 refine ⟨_,fun s=>?_,rfl⟩
 obtain ⟨a,b⟩:=s
 cases a
 ·exact h0 b
 ·exact h1 b
 ·exact h2 b
 ·exact h3 b
 ·exact h4 b
 ·exact h5 b
 ·exact h6 b
 ·exact h7 b
def Uv (x:SQ) (l:List V):List V:=@SQ.rec (fun _=>List V) (fun a b c d=>a::b::c::d::l) x
def lsT (x:S):List V:=@S.rec (fun _=>List V) (fun a0 a1 a2 a3 a4 a5 a6 a7=>Uv a0 (Uv a1 (Uv a2 (Uv a3 (Uv a4 (Uv a5 (Uv a6 (Uv a7 [])))))))) x
def UW (k:Nat) (y t:S) (h:Heap) (κ:S->Heap->K4->R):R :=
 mkT y t fun t=>Dy h k (SS (lsT t) []) AF [] fun hs acc=>T7 acc AF Em fun m n=>Ic hs m acc AF fun h'=>Wm m t fun t=>κ t h' n
theorem TC {ρ:Env} {B:Nat} {h hs:Heap} {acc:List K4} {n:K4} {φ:B9} {w:World} (sub:Sub h hs acc) (g:Gam ρ B h n φ w):Gam ρ B hs n φ w:=by
 have no:∀ (ob:Ob),GH ob=true->Ie ob=true->False:=fun ob h1 h2=>by
  cases ob with
  | c cs sup prev =>
   cases sup with
   | true=>cases h1
   | false=>cases h2
  | _=>cases h2
 refine ⟨g.base,g.dom,g.blk,fun p o b s tot hp hx=>?_,fun p q o o' b s tot s' tot' hne hp hq hx hy=>?_,fun p q o o' b s tot s' tot' hp hpr hq hx hy=>?_,g.glob⟩
 ·obtain ⟨o0,e0,rfl,_⟩:=sub.sub p o hp
  exact PX (g.obj p o0 b s tot e0 hx)
 ·exfalso
  obtain ⟨o0,e0,_,g0,_⟩:=sub.sub p o hp
  obtain ⟨o1,e1,_,g1,_⟩:=sub.sub q o' hq
  rcases g.sep p q o0 o1 b s tot s' tot' hne e0 e1 hx hy with hh | hh
  ·exact no o1 g1 (g.sup p q o0 o1 b s tot s' tot' e0 hh e1 hx hy)
  ·exact no o0 g0 (g.sup q p o1 o0 b s' tot' s tot e1 hh e0 hy hx)
 ·obtain ⟨o0,e0,rfl,_⟩:=sub.sub p o hp
  rw [GP] at hpr; cases hpr
theorem UV {k:Nat} {y t:S} {h:Heap} {κ:S->Heap->K4->R} {Φ:R->Prop} (hs:(UW k y t h κ).sat Φ):∃ t2 h2 n2,(κ t2 h2 n2).sat Φ ∧
  ∀ (ρ:Env) (B:Nat) (n:K4) (φ:B9) (w:World),Gam ρ B h n φ w->∃ φ2,Gam ρ B h2 n2 φ2 w ∧ ∀ (s:SL) (x:Value),AL ρ φ (S.get s t) x->AL ρ φ2 (S.get s t2) x:=by
 unfold UW at hs
 obtain ⟨t1,hd,hs⟩:=Vd hs
 obtain ⟨hh,acc,sub,e1⟩:=Eo k (todo:=SS (lsT t1) []) (κ:=fun hs acc=>T7 acc AF Em fun m n=>Ic hs m acc AF fun h'=>Wm m t1 fun t=>κ t h' n) (Sub.nil (h:=h))
 rw [e1] at hs
 obtain ⟨m,q,num,hs⟩:=Qq (q:=Em) ⟨fun p r hr=>by simp [Ho,Cq,N9] at hr,fun p p' r hr=>by simp [Ho,Cq,N9] at hr⟩ hs
 obtain ⟨h',bld,e2⟩:=HM (hs:=hh) (m:=m) (acc:=acc) (h:=AF) (κ:=fun h'=>Wm m t1 fun t=>κ t h' q) (fun q o hq=>by rw [Cq] at hq; cases hq)
 rw [e2] at hs
 obtain ⟨t2,ht2,e3⟩:=V1 (m:=m) (x:=t1) (κ:=fun t=>κ t h' q)
 rw [e3] at hs
 refine ⟨t2,h',q,hs,fun ρ B n φ w g=>?_⟩
 have g1:=TC sub g
 classical
 let φ2:B9:=fun q=>if hq:∃ p,Ho m p=some q then φ hq.choose else none
 have hφ:∀ p q x,Ho m p=some q->φ p=some x->φ2 q=some x:=fun p q x hm hp=>by
  have hq:∃ p,Ho m p=some q:=⟨p,hm⟩
  show (if hq:∃ p,Ho m p=some q then φ hq.choose else none)=_
  rw [dif_pos hq,num.inj _ _ _ hq.choose_spec hm]; exact hp
 have hinv:∀ q x,φ2 q=some x->∃ p,Ho m p=some q∧φ p=some x:=fun q x hx=>by
  have hx:(if hq:∃ p,Ho m p=some q then φ hq.choose else none)=some x:=hx
  split at hx
  ·rename_i hq; exact ⟨_,hq.choose_spec,hx⟩
  ·cases hx
 have hat:∀ q o' x,AM q h'=some o'->φ2 q=some x->∃ p o,Ho m p=some q∧φ p=some x∧AM p hh=some o∧Ro m o=some o':=fun q o' x hq hx=>by
  obtain ⟨p,o,h1,h2,h3⟩:=bld q o' hq
  obtain ⟨p',h1',hp'⟩:=hinv q x hx
  obtain rfl:=num.inj _ _ _ h1 h1'
  exact ⟨p,o,h1,hp',h2,h3⟩
 have hpv:∀ o o':Ob,Ro m o=some o'->BQ o'=none:=fun o o' e=>by
  cases o with
  | c cs _ _=>cases cs <;> (cases e; rfl)
  | m _ _ _=>cases e; rfl
  | it _ _ _ _=>cases e
  | it0=>cases e
  | lp _ _=>cases e
 refine ⟨φ2,⟨g1.base,fun q x hx=>?_,fun q b s tot hx=>?_,fun q o b s tot hq hx=>?_,fun q q' o o' b s tot s' tot' hne hq hq' hx hy=>?_,fun q q' o o' b s tot s' tot' hq hpr _ _ _=>?_,g1.glob⟩,fun s x hr=>?_⟩
 ·obtain ⟨p,h1,_⟩:=hinv q x hx
  exact num.lt p q h1
 ·obtain ⟨p,_,h2⟩:=hinv q _ hx
  exact g1.blk p b s tot h2
 ·obtain ⟨p,o0,_,h2,h3,h4⟩:=hat q o _ hq hx
  exact Tw hφ (g1.obj p o0 b s tot h3 h2) h4
 ·exfalso
  obtain ⟨p,o0,a1,a2,a3,a4⟩:=hat q o _ hq hx
  obtain ⟨p',o1,b1,b2,b3,b4⟩:=hat q' o' _ hq' hy
  have hpp:p≠p':=fun e=>by subst e; rw [a1] at b1; exact hne (Option.some.inj b1)
  obtain ⟨c0,k0,rfl,_⟩:=sub.sub p o0 a3
  obtain ⟨c1,k1,rfl,_⟩:=sub.sub p' o1 b3
  rcases g1.sep p p' _ _ b s tot s' tot' hpp a3 b3 a2 b2 with hh | hh
  ·rw [GP] at hh; cases hh
  ·rw [GP] at hh; cases hh
 ·obtain ⟨p,o0,_,_,hb⟩:=bld q o hq
  rw [hpv o0 o hb] at hpr; cases hpr
 ·rw [ht2]
  rcases hd s with e | e
  ·rw [e]; exact JF hφ hr
  ·rw [e]
   have:Ff m (.oth .any) = .oth .any:=by simp only [Ff,TG]
   rw [this]; simp only [AL]
end Go.Ev

namespace Go.Ev
set_option linter.unusedVariables false
abbrev KO:=S->Heap->K4->(S->Heap->K4->R)->R
abbrev U4:KO:=fun t h n κ=>κ t h n
abbrev WA (k:Nat) (y:S):KO:=fun t h _ κ=>UW k y t h κ
abbrev SO (c:KO) (z b:Nat):KO:=@Bool.rec (fun _=>KO) U4 c (Nat.beq b z)
def OX (can:KO) (body:S->Heap->K4->R) (k:Nat):S->Heap->K4->R :=
 @Nat.rec (fun _=>S->Heap->K4->R) (C2 "") (fun _ ih t h n=>can t h n fun t h n=>At (body t h n) ih) k
def Qa (can:KO) (body:S->Heap->K4->R):S->Heap->K4->R:=OX can body 1000000000
abbrev JT (c:AC):Nat:=@AC.rec (fun _=>Nat) 0 (fun _ _ x y=>Nat.add x y) (fun _=>0) (fun _ _=>0) (fun _ _ _ x y=>Nat.succ (Nat.add x y)) (fun _ _ x=>Nat.succ x) (fun _ x=>Nat.succ x) (fun _=>1) 1 (fun _=>0) (fun _ _ _ _=>1) c
abbrev GY (can:Nat->KO) (sm:SM) (cf:FL) (c:AC):I0->I0 :=
 @AC.rec (fun _=>I0->I0) (fun rest=>rest) (fun _ _ a b rest=>a (b rest)) (fun l rest env t h n=>CM sm cf l env t h n rest)
  (fun al l rest env t h n=>P9 al n fun b n=>De sm cf b l env t h h n fun env t _ h n=>rest env t h n)
  (fun c x y a b rest env t h n=>Bk sm env t c fun v=>Ly x.ends y.ends v a b rest env t h n)
  (fun id _ b rest env t h n=>Ac id (b r0 env t h n) fun t h n=>rest [] t h n)
  (fun c b _ _ t h n=>Qa (can (JT c)) (fun t h n=>b r0 [] t h n) t h n) (fun id _ _ t h n=>.ok (.exit id) t h n) (fun _ _ t h n=>.ok .ret t h n) (Dq "")
  (fun pre sp d post rest env t h n=>CM sm cf pre env t h n fun env t h n=>Uw cf sp (Bk sm env t) h n fun v h n=>CX sm d t v fun t=>CM sm cf post (BM d v env) t h n rest) c
abbrev WK (can:Nat->KO) (sm:SM) (a:AFn):Ent:=@AFn.rec (fun _=>Ent) (fun ps c rs=>.code (fun l κ=>Jc ps l Gc fun t=>κ (Tj sm t)) (fun cf t h n=>GY can sm cf c r0 [] t h n) (fun t h n=>In sm rs t h n)) a
abbrev Um (can:Nat->KO) (sm:SM) (o:Option AFn):D6:=@Option.rec AFn (fun _=>D6) none (fun a=>some (WK can sm a)) o
def JI (can:Nat->KO) (P:Program) (f:FuncId) (e:Ent):Prop:=∃ sm:SM,Um can sm (FZ P f)=some e∧XB sm (FZ P f)=true
theorem JI.mk {can:Nat->KO} {P:Program} {f:FuncId} {e:Ent} (sm:SM) (h:Um can sm (FZ P f)=some e) (k:XB sm (FZ P f)=true):JI can P f e:=⟨sm,h,k⟩
def HH (can:KO):Prop:=∀ {t:S} {h:Heap} {n:K4} {κ:S->Heap->K4->R} {Φ:R->Prop},(can t h n κ).sat Φ->∀ (ρ:Env) (B:Nat) (φ:B9) (w:World) (A:SL->Value->Prop),
  (∀ s x y,A s x->A s y->x=y)->Gam ρ B h n φ w->(∀ s x,A s x->AL ρ φ (S.get s t) x)->∃ t2 h2 n2 φ2,(κ t2 h2 n2).sat Φ∧Gam ρ B h2 n2 φ2 w ∧ ∀ s x,A s x->AL ρ φ2 (S.get s t2) x
theorem Tk (k:Nat) (y:S):HH (WA k y):=fun {t h n κ Φ} hs ρ B φ w A _ g hA=>by
 obtain ⟨t2,h2,n2,a,b⟩:=UV (κ:=κ) (Φ:=Φ) hs
 obtain ⟨φ2,g2,r2⟩:=b ρ B n φ w g
 exact ⟨t2,h2,n2,φ2,a,g2,fun s x hx=>r2 s x (hA s x hx)⟩
theorem TM:HH U4:=fun {t h n κ Φ} hs ρ B φ w A _ g hA=>⟨t,h,n,φ,hs,g,hA⟩
theorem QI {c:KO} (hc:HH c) (z b:Nat):HH (SO c z b):=by
 show HH (@Bool.rec (fun _=>KO) U4 c (Nat.beq b z))
 cases Nat.beq b z with
 | false=>exact TM
 | true=>exact hc
def VA (can:KO) (body:S->Heap->K4->R) (L:S->Heap->K4->R) (k:Nat):S->Heap->K4->R :=
 @Nat.rec (fun _=>S->Heap->K4->R) L (fun _ ih t h n=>can t h n fun t h n=>At (body t h n) ih) k
theorem Po {can:KO} {body:S->Heap->K4->R} (j:Nat):∀ k,VA can body (OX can body j) k=OX can body (j+k)
 | 0=>rfl
 | k+1=>by
  show (fun t h n=>can t h n fun t h n=>At (body t h n) (VA can body (OX can body j) k))=fun t h n=>can t h n fun t h n=>At (body t h n) (OX can body (j+k))
  rw [Po j k]
def Nd (sm:SM) (t:S):Regs:=sm.foldr (fun x r=>DE x.1 r (S.get x.2 t)) (Regs.all (VP.all (.oth .any)))
theorem GE {p:K2} {t:S}:∀ {sm:SM},Bg p (Nd sm t)=match BI p sm with | some s=>S.get s t | none=>.oth .any
 | []=>by simp only [Nd,List.foldr_nil,Bg,Regs.sel_all,VP.sel_all,BI]
 | x::l=>by
  show Bg p (DE x.1 (Nd l t) (S.get x.2 t))=_
  simp only [BI]
  cases hb:K2.beq x.1 p with
  | true =>
   rw [K2.beq_iff.1 hb,Bd]; rfl
  | false =>
   rw [Bt _ _ (fun e=>by rw [K2.beq_iff.2 e] at hb; cases hb),GE]; rfl
section
variable {P:Program} {ρ:Env} {B N:Nat} {cf:CF} {cf2:FL} {sm:SM} {can:Nat->KO}
theorem Nv {h h1:Heap} {φ φ':B9} {n n1:K4} {w w':World} (g:Gam ρ B h n φ w) (f:Fr h h1 φ φ' n n1 w w'):Go.RowKit.Below B w w' :=
 ⟨f.os,f.tape,f.out,f.size,fun k hk=>f.old k (Nat.lt_of_lt_of_le hk g.base) fun p s t hp=>absurd (g.blk p k s t hp).1 (by omega)⟩
def My:AC->Bool
 | .ops _=>true
 | .drawn _ _=>true
 | .spl _ _ _ _=>true
 | .bad _=>true
 | _=>false
theorem R2:∀ {a:AC},My a=true->GY can sm cf2 a=Gk sm cf2 a:=fun {a} h=>by
 cases a <;> first | rfl | cases h
def Qo (P:Program) (ρ:Env) (B N:Nat) (sm:SM) (C:Code) (t:Regs) (h:Heap) (n:K4) (Φ:R->Prop):Prop :=
 ∀ φ a w,TR ρ N φ t a->Gam ρ B h n φ w->∀ (Q:Exit->Act->World->Prop),
  (∀ e t1 h1 n1,Φ (.ok e t1 h1 n1)->∀ φ' a' w' tf,Go.RowKit.Below B w w'->Gam ρ B h1 n1 φ' w'->TR ρ N φ' tf a'->(∀ p s,BI p sm=some s->S.get s t1=Bg p tf)->Q (IP e) a' w')->C.wp P Q a w
def OU (P:Program) (ρ:Env) (B N:Nat) (sm:SM) (can:Nat->KO) (cf2:FL) (C:Code):Prop :=
 ∀ (rest:I0) (rOk:List K2->Bool) (dom:List K2) (env:Ren) (t:Regs) (t':S) (h:Heap) (n:K4) (Φ:R->Prop),
  F1 sm (AO P N C) rOk dom=true->RI sm dom env t t'->(GY can sm cf2 (AO P N C) rest env t' h n).sat Φ →
  ∀ φ a w,TR ρ N φ t a->Gam ρ B h n φ w->∀ (Q:Exit->Act->World->Prop),
   (∀ e t1 h1 n1,Φ (.ok e t1 h1 n1)->e ≠ .nrm->∀ φ' a' w' tf,Go.RowKit.Below B w w'->Gam ρ B h1 n1 φ' w'->TR ρ N φ' tf a'->(∀ p s,BI p sm=some s->S.get s t1=Bg p tf)->Q (IP e) a' w') →
   ((AO P N C).ends=false->∀ dom2 env2 t2 t2' h2 n2,rOk dom2=true->RI sm dom2 env2 t2 t2'->(rest env2 t2' h2 n2).sat Φ->∀ φ2 a2 w2,Go.RowKit.Below B w w2->Gam ρ B h2 n2 φ2 w2->TR ρ N φ2 t2 a2->Q .normal a2 w2) →
   C.wp P Q a w
theorem OU.join {C:Code} (H:OU P ρ B N sm can cf2 C) {dom:List K2} {env:Ren} {t:Regs} {t':S} {h:Heap} {n:K4} {Φ:R->Prop} (hok:F1 sm (AO P N C) (fun _=>true) dom=true) (ri:RI sm dom env t t')
  (hx:(GY can sm cf2 (AO P N C) r0 env t' h n).sat Φ):Qo P ρ B N sm C t h n Φ:=by
 intro φ a w hT g Q hQ
 refine H r0 _ dom env t t' h n Φ hok ri hx φ a w hT g Q (fun e t1 h1 n1 hΦ _ φ' a' w' tf f1 g1 T1 hk=>hQ e t1 h1 n1 hΦ φ' a' w' tf f1 g1 T1 hk) fun _ dom2 env2 t2 t2' h2 n2 _ ri2 hr φ2 a2 w2 f2 g2 T2=>?_
 have hr:Φ (R.ok .nrm t2' h2 n2):=hr
 exact hQ _ _ _ _ hr φ2 a2 w2 t2 f2 g2 T2 ri2.keep
theorem I4 {ops:Array Oper} {d:Bool}:My (BY P N ops d)=true:=by
 unfold BY
 cases Ga P N ops ops.toList with
 | none=>rfl
 | some os =>
  cases d with
  | false=>rfl
  | true =>
   show My (if (BX (ops.toList.map Ck) os).ok then AC.drawn ((BX (ops.toList.map Ck) os).sk.any SI.isAl) ((BX (ops.toList.map Ck) os).sk.map (KE os)) else .bad "a region of it order")=true
   split <;> rfl
theorem No {id:Nat} {ops:Array Oper} {draw:Bool}:My (AO P N (.region id ops draw))=true:=by
 show My (ML P N ops draw)=true
 unfold ML
 cases draw with
 | true=>exact I4
 | false =>
  show My (match KS P N ops ops.toList with | some r=>.spl r.1 r.2.1 r.2.2.1 r.2.2.2 | none=>BY P N ops false)=true
  cases KS P N ops ops.toList with
  | none=>exact I4
  | some r=>rfl
theorem U2 (hcan:∀ b,HH (can b)) (hρ:Bo ρ) (hm:P.follows .mixedOrders=true) (hct:Gp P ρ B cf) (hR:FP P ρ B cf) (h2:∀ f,cf2 (BA f)=cf f):∀ C:Code,OU P ρ B N sm can cf2 C:=by
 have hcf:=hct.ok
 intro C
 induction C with
 | skip=>intro rest rOk dom env t t' h n Φ hok ri hx φ a w hT g Q hex hre; exact wp_skip (hre rfl dom env t t' h n hok ri hx φ a w (Go.RowKit.Below.refl _ w) g hT)
 | label l=>intro rest rOk dom env t t' h n Φ hok ri hx φ a w hT g Q hex hre; exact wp_label (hre rfl dom env t t' h n hok ri hx φ a w (Go.RowKit.Below.refl _ w) g hT)
 | exit id =>
  intro rest rOk dom env t t' h n Φ hok ri hx φ a w hT g Q hex hre
  exact wp_exit (hex _ _ _ _ hx (fun h=>by cases h) φ a w t (Go.RowKit.Below.refl _ w) g hT ri.keep)
 | ret =>
  intro rest rOk dom env t t' h n Φ hok ri hx φ a w hT g Q hex hre
  exact wp_ret (hex _ _ _ _ hx (fun h=>by cases h) φ a w t (Go.RowKit.Below.refl _ w) g hT ri.keep)
 | region id ops draw =>
  intro rest rOk dom env t t' h n Φ hok ri hx φ a w hT g Q hex hre
  rw [R2 No] at hx
  exact S2 (sm:=sm) hρ hm hct hR h2 (.region id ops draw) rest rOk dom env t t' h n Φ hok ri hx φ a w hT g Q
   (fun e t1 h1 n1 hΦ hne φ' a' w' tf f1 g1 T1 hk=>hex e t1 h1 n1 hΦ hne φ' a' w' tf (Nv g f1) g1 T1 hk)
   fun he dom2 env2 t2 t2' h2 n2 hok2 ri2 hr φ2 a2 w2 f2 g2 T2=>hre he dom2 env2 t2 t2' h2 n2 hok2 ri2 hr φ2 a2 w2 (Nv g f2) g2 T2
 | seq x y ihx ihy =>
  intro rest rOk dom env t t' h n Φ hok ri hx φ a w hT g Q hex hre
  have hok:F1 sm (AO P N x) (F1 sm (AO P N y) rOk) dom=true:=hok
  have hx:(GY can sm cf2 (AO P N x) (GY can sm cf2 (AO P N y) rest) env t' h n).sat Φ:=hx
  have hre:or (AO P N x).ends (AO P N y).ends=false->_:=hre
  refine wp_seq (ihx _ _ dom env t t' h n Φ hok ri hx φ a w hT g _ (fun e t1 h1 n1 hΦ hne φ' a' w' tf f1 g1 T1 hk=>?_) fun he dom2 env2 t2 t2' h2' n2 hok2 ri2 hr φ2 a2 w2 f2 g2 T2=>?_)
  ·have:=hex e t1 h1 n1 hΦ hne φ' a' w' tf f1 g1 T1 hk
   cases e with
   | nrm=>exact absurd rfl hne
   | exit id=>exact this
   | ret=>exact this
  ·exact ihy rest rOk dom2 env2 t2 t2' h2' n2 Φ hok2 ri2 hr φ2 a2 w2 T2 g2 Q (fun e t1 h1 n1 hΦ hne φ' a' w' tf f1 g1 T1 hk=>hex e t1 h1 n1 hΦ hne φ' a' w' tf (Go.RowKit.Below.trans f2 f1) g1 T1 hk)
    fun he' dom3 env3 t3 t3' h3 n3 hok3 ri3 hr3 φ3 a3 w3 f3 g3 T3=>hre (by rw [he,he']; rfl) dom3 env3 t3 t3' h3 n3 hok3 ri3 hr3 φ3 a3 w3 (Go.RowKit.Below.trans f2 f3) g3 T3
 | cond c x y ihx ihy =>
  intro rest rOk dom env t t' h n Φ hok ri hx φ a w hT g Q hex hre
  have hok:F1 sm (match AX N c with | some c=>.cond c (AO P N x) (AO P N y) | none=>.bad "a test") rOk dom=true:=hok
  have hx:(GY can sm cf2 (match AX N c with | some c=>.cond c (AO P N x) (AO P N y) | none=>.bad "a test") rest env t' h n).sat Φ:=hx
  have hre:AC.ends (match AX N c with | some c=>.cond c (AO P N x) (AO P N y) | none=>.bad "a test")=false->_:=hre
  split at hx
  ·rename_i c' hc
   simp only [hc] at hok hre
   have hre:and (AO P N x).ends (AO P N y).ends=false->_:=hre
   have hok:(DN sm dom c'&&br (AO P N x).ends (F1 sm (AO P N x) (fun _=>true) dom&&F1 sm (AO P N y) rOk dom) (br (AO P N y).ends (F1 sm (AO P N x) rOk dom&&F1 sm (AO P N y) (fun _=>true) dom) (F1 sm (AO P N x) (fun _=>true) dom&&(F1 sm (AO P N y) (fun _=>true) dom&&rOk []))))=true:=hok
   rw [Bool.and_eq_true] at hok
   have hx:(Bk sm env t' c' (fun v=>Ly (AO P N x).ends (AO P N y).ends v (GY can sm cf2 (AO P N x)) (GY can sm cf2 (AO P N y)) rest env t' h n)).sat Φ:=hx
   have e0:∀ κ:V->R,Bk sm env t' c' κ=κ (ev c' t):=fun κ=>by
    cases c' with
    | c v=>rfl
    | t p=>exact ri.tell hok.1 κ
   rw [e0] at hx
   have g1:=An hc hT
   generalize hv:ev c' t=v at hx g1
   obtain ⟨_,hok⟩:=hok
   unfold Ly at hx
   -- the value is a bool
   have key:∀ (A C:R) (κ:R->R),(∀ s,κ (.fail s) = .fail s)->(∀ x y,κ (.both x y) = .both (κ x) (κ y))->(κ (Al v A C)).sat Φ->∃ q,a.eval c = .bool q∧(κ (br q A C)).sat Φ:=fun A C κ hκ hb hh=>by
    have no:(κ (.fail "")).sat Φ->∃ q,a.eval c = .bool q∧(κ (br q A C)).sat Φ:=fun hh=>by rw [hκ] at hh; exact hh.elim
    cases v with
    | bool q=>exact ⟨q,Dv g1,by cases q <;> exact hh⟩
    | oth o=>cases o with
     | bl =>
      have g1:=g1
      simp only [AL] at g1
      obtain ⟨q,hq⟩:=g1
      have hh:(κ (.both A C)).sat Φ:=hh
      rw [hb] at hh
      exact ⟨q,hq,by cases q; exact hh.2; exact hh.1⟩
     | _=>exact no hh
    | _=>exact no hh
   cases hex':(AO P N x).ends with
   | true =>
    rw [hex'] at hx hok hre
    have hok:(F1 sm (AO P N x) (fun _=>true) dom&&F1 sm (AO P N y) rOk dom)=true:=hok
    rw [Bool.and_eq_true] at hok
    obtain ⟨q,hq,hx⟩:=key _ _ id (fun _=>rfl) (fun _ _=>rfl) hx
    refine wp_cond hq ?_
    cases q with
    | true=>exact ihx r0 _ dom env t t' h n Φ hok.1 ri hx φ a w hT g Q hex fun he=>by rw [hex'] at he; cases he
    | false=>exact ihy rest rOk dom env t t' h n Φ hok.2 ri hx φ a w hT g Q hex fun he=>hre (by rw [he]; rfl)
   | false =>
    rw [hex'] at hx hok hre
    have hre:=hre rfl
    cases hey:(AO P N y).ends with
    | true =>
     rw [hey] at hx hok
     have hok:(F1 sm (AO P N x) rOk dom&&F1 sm (AO P N y) (fun _=>true) dom)=true:=hok
     rw [Bool.and_eq_true] at hok
     obtain ⟨q,hq,hx⟩:=key _ _ id (fun _=>rfl) (fun _ _=>rfl) hx
     refine wp_cond hq ?_
     cases q with
     | true=>exact ihx rest rOk dom env t t' h n Φ hok.1 ri hx φ a w hT g Q hex fun _=>hre
     | false=>exact ihy r0 _ dom env t t' h n Φ hok.2 ri hx φ a w hT g Q hex fun he=>by rw [hey] at he; cases he
    | false =>
     rw [hey] at hx hok
     have hok:(F1 sm (AO P N x) (fun _=>true) dom&&(F1 sm (AO P N y) (fun _=>true) dom&&rOk []))=true:=hok
     rw [Bool.and_eq_true,Bool.and_eq_true] at hok
     obtain ⟨q,hq,hx⟩:=key _ _ (fun r=>At r fun t h n=>rest [] t h n) (fun _=>rfl) (fun _ _=>rfl) hx
     refine wp_cond hq ?_
     have fin:∀ (Z:Code),Qo P ρ B N sm Z t h n (Qp (fun t h n=>rest [] t h n) Φ)->Z.wp P Q a w:=fun Z HZ=>by
      refine HZ φ a w hT g Q fun e0 t0 h0 n0 hj φ' a' w' tf f1 g1 T1 hk=>?_
      cases e0 with
      | nrm=>exact hre [] [] tf t0 h0 n0 hok.2.2 (RI.start ri.inj hk) hj φ' a' w' f1 g1 T1
      | exit id=>exact hex _ _ _ _ hj (fun h=>by cases h) φ' a' w' tf f1 g1 T1 hk
      | ret=>exact hex _ _ _ _ hj (fun h=>by cases h) φ' a' w' tf f1 g1 T1 hk
     cases q with
     | true=>exact fin x (ihx.join hok.1 ri (DH hx))
     | false=>exact fin y (ihy.join hok.2.1 ri (DH hx))
  ·exact hx.elim
 | block id b ih =>
  intro rest rOk dom env t t' h n Φ hok ri hx φ a w hT g Q hex hre
  have hok:(F1 sm (AO P N b) (fun _=>true) dom&&rOk [])=true:=hok
  rw [Bool.and_eq_true] at hok
  have hx:(Ac id (GY can sm cf2 (AO P N b) r0 env t' h n) (fun t h n=>rest [] t h n)).sat Φ:=hx
  have hre:=hre rfl
  refine wp_block (ih.join hok.1 ri (FI hx) φ a w hT g _ fun e0 t0 h0 n0 hx φ' a' w' tf f1 g1 T1 hk=>?_)
  cases e0 with
  | nrm=>exact hre [] [] tf t0 h0 n0 hok.2 (RI.start ri.inj hk) hx φ' a' w' f1 g1 T1
  | exit j =>
   show (if j=id then Q .normal a' w' else Q (.exit j) a' w')
   rcases hx with ⟨hj,hx⟩ | ⟨hj,hx⟩
   ·rw [if_pos hj]; exact hre [] [] tf t0 h0 n0 hok.2 (RI.start ri.inj hk) hx φ' a' w' f1 g1 T1
   ·rw [if_neg hj]; exact hex _ _ _ _ hx (fun h=>by cases h) φ' a' w' tf f1 g1 T1 hk
  | ret=>exact hex _ _ _ _ hx (fun h=>by cases h) φ' a' w' tf f1 g1 T1 hk
 | loop b ih =>
  intro rest rOk dom env t t' h n Φ hok ri hx φ a w hT g Q hex hre
  have hok:F1 sm (AO P N b) (fun _=>true) []=true:=hok
  have hx:(OX (can (JT (AO P N b))) (fun t h n=>GY can sm cf2 (AO P N b) r0 [] t h n) 1000000000 t' h n).sat Φ:=hx
  refine wp_loop_rounds 1000000000 ?_
  have key:∀ (k:Nat) (t:Regs) (t':S) (h:Heap) (n:K4),(∀ p s,BI p sm=some s->S.get s t'=Bg p t)->(OX (can (JT (AO P N b))) (fun t h n=>GY can sm cf2 (AO P N b) r0 [] t h n) k t' h n).sat Φ->∀ φ a w,TR ρ N φ t a->Gam ρ B h n φ w →
    (∀ e t1 h1 n1,Φ (.ok e t1 h1 n1)->e ≠ .nrm->∀ φ' a' w' tf,Go.RowKit.Below B w w'->Gam ρ B h1 n1 φ' w'->TR ρ N φ' tf a'->(∀ p s,BI p sm=some s->S.get s t1=Bg p tf)->Q (IP e) a' w')->Code.rounds P b Q k a w:=by
   intro k
   induction k with
   | zero=>intro t t' h n _ hx; exact hx.elim
   | succ k ihk =>
    intro t t' h n hk0 hx φ a w hT g hQ
    have hx:(can (JT (AO P N b)) t' h n fun t h n=>At (GY can sm cf2 (AO P N b) r0 [] t h n) (OX (can (JT (AO P N b))) (fun t h n=>GY can sm cf2 (AO P N b) r0 [] t h n) k)).sat Φ:=hx
    obtain ⟨t2',h2',n2,φ2,hx,g2,r2⟩:=hcan _ hx ρ B φ w (fun sl x=>∃ s p,s<N∧K2.ofN s=some p∧BI p sm=some sl∧x=a.tmps.getD s undef)
     (fun sl x y ⟨s,p,_,h2,h3,h4⟩ ⟨s',p',_,h2',h3',h4'⟩=>by
      have:=ri.inj h3 h3'; subst this
      have:=K2.ofN_inj h2 h2'; subst this
      rw [h4,h4'])
     g fun sl x ⟨s,p,h1,h2,h3,h4⟩=>by rw [hk0 p sl h3,h4]; exact hT.at_ s p h1 h2
    have T2:TR ρ N φ2 (Nd sm t2') a:=⟨hT.size,hT.defers,fun s p h1 h2=>by
     rw [GE]
     cases hf:BI p sm with
     | none=>simp only [AL]
     | some sl=>exact r2 sl _ ⟨s,p,h1,h2,hf,rfl⟩⟩
    refine ih.join hok (RI.start ri.inj fun p s hf=>by rw [GE,hf]) (DH hx) φ2 a w T2 g2 _ fun e0 t0 h0 n0 hx φ' a' w' tf f1 g1 T1 hk=>?_
    cases e0 with
    | nrm=>exact ihk tf t0 h0 n0 hk hx φ' a' w' T1 g1 fun e t1 h1 n1 hΦ hne φ3 a3 w3 tf3 f3 g3 T3 hk3=>hQ e t1 h1 n1 hΦ hne φ3 a3 w3 tf3 (Go.RowKit.Below.trans f1 f3) g3 T3 hk3
    | exit id=>exact hQ _ _ _ _ hx (fun h=>by cases h) φ' a' w' tf f1 g1 T1 hk
    | ret=>exact hQ _ _ _ _ hx (fun h=>by cases h) φ' a' w' tf f1 g1 T1 hk
  exact key _ t t' h n ri.keep hx φ a w hT g hex
 | rangeFunc _ _ _ _=>intro rest rOk dom env t t' h n Φ hok ri hx; exact hx.elim
 | scope _=>intro rest rOk dom env t t' h n Φ hok ri hx; exact hx.elim
 | goto _=>intro rest rOk dom env t t' h n Φ hok ri hx; exact hx.elim
 | refuse _=>intro rest rOk dom env t t' h n Φ hok ri hx; exact hx.elim
end
section
variable {P:Program} {ρ:Env} {B:Nat} {can:Nat->KO}
theorem PB (hcan:∀ b,HH (can b)) (hρ:Bo ρ) (hm:P.follows .mixedOrders=true) {cf:CF} {cf2:FL} (hct:Gp P ρ B cf) (hR:FP P ρ B cf) (h2:∀ f,cf2 (BA f)=cf f) {f:FuncId} {e:Ent} (he:JI can P f e) {args:List V} {h:Heap} {n:K4} {Φ:R->Prop}
  (hr:(KY cf2 (some e) args h n).sat Φ) {φ:B9} {w:World} {xs:Array Value} (g:Gam ρ B h n φ w) (hxs:Bs ρ φ args xs.toList) :
  Jh P f xs w fun x w'=>∃ v h1 n1 φ',Φ (.rv v h1 n1)∧Go.RowKit.Below B w w'∧Gam ρ B h1 n1 φ' w'∧AL ρ φ' v x:=by
 obtain ⟨sm,hd,hok⟩:=he
 cases hf:FZ P f with
 | none=>rw [hf] at hd; cases hd
 | some a =>
  rw [hf] at hd hok
  obtain ⟨fn,c,ps,rs,hfn,hb,hps,hrs,hname,rfl⟩:=Kv hf
  have hd:some (Ent.code (fun l κ=>Jc ps l Gc fun t=>κ (Tj sm t)) (fun cf t h n=>GY can sm cf (AO P fn.ntmps c) r0 [] t h n) (fun t h n=>In sm rs t h n))=some e:=hd
  cases hd
  have hok:(NU sm&&(F1 sm (AO P fn.ntmps c) (fun _=>true) []&&rs.all fun r=>Gl sm r.reg))=true:=hok
  rw [Bool.and_eq_true,Bool.and_eq_true] at hok
  obtain ⟨hsm,hok⟩:=hok
  have inj:∀ {p q s},BI p sm=some s->BI q sm=some s->p=q:=fun h h'=>JG hsm h h'
  have hr:(Jc ps args Gc (fun t=>OI (GY can sm cf2 (AO P fn.ntmps c) r0 [] (Tj sm t) h n) fun t h n=>In sm rs t h n)).sat Φ:=hr
  rw [KD] at hr
  obtain ⟨hlen,t0,e2,H0⟩:=IF (k:=0) (fun i s hi=>by
   obtain ⟨hi',hi2⟩:=List.getElem?_eq_some_iff.1 hi
   simp at hi2; omega) hps (R.sat_good hr)
  rw [e2] at hr
  simp only [List.length_range] at hlen
  have hxl:xs.size=args.length:=by have:=Be hxs; simpa using this
  have hxN:xs.size≤fn.ntmps:=by
   rcases Nat.eq_zero_or_pos xs.size with h0 | h0
   ·omega
   ·have:=IN hps (xs.size - 1) (List.mem_range.2 (by omega)); omega
  have hT:TR ρ fn.ntmps φ t0 { tmps:=xs++Array.replicate (fn.ntmps - xs.size) undef,defers:=[] }:={
   size:=by simp; omega
   defers:=rfl
   at_:=fun s p hs hp=>by
    rw [H0 s p hp,if_pos (Nat.zero_le _),Nat.sub_zero,Je]
    show AL ρ φ _ ((xs++Array.replicate (fn.ntmps - xs.size) undef).getD s undef)
    rw [Array.getD_eq_getD_getElem?]
    by_cases hsx:s<xs.size
    ·rw [Array.getElem?_append_left hsx]
     have hsa:s<args.length:=by omega
     rw [List.getElem?_eq_getElem hsa]
     obtain ⟨x,hx,hrx⟩:=(Cc.1 hxs).2 s _ (List.getElem?_eq_getElem hsa)
     rw [Array.getElem?_toList] at hx
     rw [hx]; exact hrx
    ·rw [Array.getElem?_append_right (by omega),Array.getElem?_replicate,if_pos (by omega),List.getElem?_eq_none (by omega)]
     exact DQ }
  have hx:=I2 hr
  have hOK:=(U2 (N:=fn.ntmps) (sm:=sm) hcan hρ hm hct hR h2 c).join hok.1 (RI.start inj fun p s hs=>N6 hsm hs) hx
  intro o a K Q hK
  have hcf':(callFunc f xs).run P w = .ok (.enter f xs) w:=by
   have hname':fn.name ≠ "runtime.NumGoroutine":=by simpa using hname
   simp [callFunc,hfn,hname',hb]
  rw [hcf']
  refine calls_of_wp hfn hb (hOK φ _ w hT g _ fun e t1 h2' n2 hres φ' a' w' tf f1 g1 T1 hk=>?_)
  have fin:(In sm rs t1 h2' n2).sat Φ->∃ X,(results fn a'.tmps).run P w' = .ok X w'∧K (a.put o.dst X) w':=fun hres=>by
   rw [Od (RI.start inj hk) fun r hr=>List.all_eq_true.1 hok.2 r hr] at hres
   obtain ⟨v,hv⟩:=Q4 (R.sat_good hres)
   obtain ⟨_,_,Hres⟩:=Lj (ρ:=ρ) (B:=B) hrs hv
   rw [hv] at hres
   obtain ⟨X,hX,hrX⟩:=Hres φ' a' w' T1 g1
   exact ⟨X,hX,hK X w' ⟨v,h2',n2,φ',hres,f1,g1,hrX⟩⟩
  cases e with
  | nrm=>obtain ⟨X,hX,hKX⟩:=fin hres; exact ⟨T1.defers,X,hX,hKX⟩
  | exit id=>exact hres.elim
  | ret=>obtain ⟨X,hX,hKX⟩:=fin hres; exact ⟨T1.defers,X,hX,hKX⟩
theorem LC (hcan:∀ b,HH (can b)) (hρ:Bo ρ) (hm:P.follows .mixedOrders=true) {T:FC} (hT:∀ B,H3 P ρ B T) {m:Nat} {f:FuncId} {fn:Func} {e:Ent} (he:JI can P f e) {args:List V}
  (hf:P.funcs[f]? = some fn) (hb:fn.body.isSome=true) (hn:(fn.name == "runtime.NumGoroutine")=false) (hx:KM (KY (E5 T m) (some e) args AF Em)=true) {xs:Array Value} (hr:Bs ρ (fun _=>none) args xs.toList) (w:World) (hgl:TO ρ w:=by intro b c e fr h; have h:(none:Option (Array Value×TypeId×(Nat×Nat)))=some (c,e,fr):=h; cases h) :
  Calls P f xs w fun e w'=>e = .returned (.bool true)∧Go.RowKit.Below w.heap.size w w':=by
 obtain ⟨c,hc⟩:=Option.isSome_iff_exists.1 hb
 obtain ⟨hct,hR⟩:=Mr (B:=w.heap.size) hρ hm (hT _) m
 have:=Ha (R:=fun x w'=>x = .bool true∧Go.RowKit.Below w.heap.size w w') hf hc (by simpa using hn) (fun o a K Q hK =>
  PB hcan hρ hm hct hR (fun _=>rfl) he (JQ hx) (Ld w Em hgl) hr o a K Q fun x w' ⟨v,h1,n1,φ',⟨h2,n2,e⟩,f1,_,r1⟩=>hK x w' ⟨by cases e; simpa only [AL] using r1,f1⟩)
 refine this.mono fun e w' he=>?_
 cases e with
 | returned v=>exact ⟨by rw [he.1],he.2⟩
 | _=>exact he.elim
end
end Go.Ev
