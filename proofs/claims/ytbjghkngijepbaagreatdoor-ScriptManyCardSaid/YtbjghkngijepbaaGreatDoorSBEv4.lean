/- AN EVALUATOR OF THE MODEL OF Go, PROVED SOUND, PART 4: what it says of a call holds in every world, on every tape. Conditions: none of its own; each theorem bears its premises. -/
import Derived.Test.YtbjghkngijepbaaGreatDoorSBEv3
import Derived.Shelf.Strconv.Itoa1
import GoSem.ClaimGoes
noncomputable section
set_option linter.unusedSimpArgs false
set_option linter.unusedVariables false
namespace Go.Ev
set_option linter.unusedVariables false
abbrev M8:=Ren->S->Heap->K4->R
abbrev r0:M8:=fun _ t h n=>.ok .nrm t h n
def AC.ends (c:AC):Bool:=@AC.rec (fun _=>Bool) false (fun _ _ x y=>or x y) (fun _=>false) (fun _ _=>false) (fun _ _ _ x y=>and x y) (fun _ _ _=>false) (fun _ _=>true) (fun _=>true) true (fun _=>true) (fun _ _ _ _=>false) c
def AS (r:R) (κ:S->Heap->K4->R):R :=
 @R.rec (fun _=>R) (fun e t h n=>@Ex.rec (fun _=>R) (κ t h n) (fun id=>.ok (.exit id) t h n) (.ok .ret t h n) e) (BR "") (fun w=>.fail w) (fun _ _ a b=>.both a b) r
def Ad (id:Nat) (r:R) (κ:S->Heap->K4->R):R :=
 @R.rec (fun _=>R) (fun e t h n=>@Ex.rec (fun _=>R) (κ t h n) (fun j=>br (Nat.beq j id) (κ t h n) (.ok (.exit j) t h n)) (.ok .ret t h n) e) (BR "") (fun w=>.fail w) (fun _ _ a b=>.both a b) r
def Az (body:S->Heap->K4->R):S->Heap->K4->R:=Ej body 1000000000
def EA (n:K4) (κ:K4->K4->R):R:=n.nx16 fun b=>b.nx16 fun n=>κ b n
abbrev QJ (al:Bool) (n:K4) (κ:K4->K4->R):R:=Tl al (EA n κ) (κ n n)
abbrev S1 (ea eb:Bool) (v:V) (a b:M8->M8) (rest:M8) (env:Ren) (t:S) (h:Heap) (n:K4):R :=
 Tl ea (Am v (a r0 env t h n) (b rest env t h n)) (Tl eb (Am v (a rest env t h n) (b r0 env t h n)) (AS (Am v (a r0 env t h n) (b r0 env t h n)) fun t h n=>rest [] t h n))
abbrev Gw (sm:SM) (cf:He) (c:AC):M8->M8 :=
 @AC.rec (fun _=>M8->M8) (fun rest=>rest) (fun _ _ a b rest=>a (b rest)) (fun l rest env t h n=>D4 sm cf l env t h n rest)
  (fun al l rest env t h n=>QJ al n fun b n=>Dn sm cf b l env t h h n fun env t _ h n=>rest env t h n)
  (fun c x y a b rest env t h n=>Bk sm env t c fun v=>S1 x.ends y.ends v a b rest env t h n)
  (fun id _ b rest env t h n=>Ad id (b r0 env t h n) fun t h n=>rest [] t h n)
  (fun _ b _ _ t h n=>Az (fun t h n=>b r0 [] t h n) t h n) (fun id _ _ t h n=>.ok (.exit id) t h n) (fun _ _ t h n=>.ok .ret t h n) (Dl "")
  (fun pre sp d post rest env t h n=>D4 sm cf pre env t h n fun env t h n=>TU cf sp (Bk sm env t) h n fun v h n=>CX sm d t v fun t=>D4 sm cf post (BF d v env) t h n rest) c
def E0 (sm:SM) (dom:List K2) (c:Opd):Bool:=@Opd.rec (fun _=>Bool) (fun p=>It sm dom p) (fun _=>true) c
def OX (sm:SM) (dom:List K2) (sp:Sp):Bool:=@Sp.rec (fun _=>Bool) (fun x=>E0 sm dom x) (fun x=>E0 sm dom x) (fun x=>E0 sm dom x) (fun _ l=>l.all (E0 sm dom)) (fun x l=>E0 sm dom x&&l.all (E0 sm dom)) sp
def J2 (sm:SM) (c:AC):(List K2->Bool)->List K2->Bool :=
 @AC.rec (fun _=>(List K2->Bool)->List K2->Bool) (fun r=>r) (fun _ _ a b r=>a (b r)) (fun l r dom=>FM sm l dom&&r (CA l dom))
  (fun al l r dom=>Hx sm l dom&&r (Hv l dom))
  (fun c x y a b r dom=>E0 sm dom c&&br x.ends (a (fun _=>true) dom&&b r dom) (br y.ends (a r dom&&b (fun _=>true) dom) (a (fun _=>true) dom&&(b (fun _=>true) dom&&r []))))
  (fun id _ b r dom=>b (fun _=>true) dom&&r []) (fun _ b _ _=>b (fun _=>true) []) (fun _ _ _=>true) (fun _ _=>true) (fun _ _ _=>true)
  (fun pre sp d post r dom=>FM sm pre dom&&(OX sm (CA pre dom) sp&&(FM sm post (Fx d (CA pre dom))&&r (CA post (Fx d (CA pre dom)))))) c
section
variable {P:Program} {ρ:Env} {B N:Nat} {cf:CF} {cf2:He} {sm:SM}
def QU (κ:S->Heap->K4->R) (Φ:R->Prop):R->Prop
 | .ok .nrm t h n=>(κ t h n).sat Φ
 | .ok e t h n=>Φ (.ok e t h n)
 | _=>False
theorem Gl {κ:S->Heap->K4->R} {Φ:R->Prop}:∀ {r:R},(AS r κ).sat Φ->r.sat (QU κ Φ)
 | .ok e t h n,hs=>by cases e <;> exact hs
 | .rv _ _ _,hs=>hs.elim
 | .fail _,hs=>hs.elim
 | .both a b,hs=>⟨Gl (r:=a) hs.1,Gl (r:=b) hs.2⟩
theorem SG {body:S->Heap->K4->R} {k:Nat} {Φ:R->Prop} {t:S} {h:Heap} {n:K4} (hs:(Ej body (k+1) t h n).sat Φ):(body t h n).sat (QU (Ej body k) Φ):=by
 have e:Ej body (k+1) t h n=@R.rec (fun _=>R) (fun e t h n=>@Ex.rec (fun _=>R) (Ej body k t h n) (fun id=>.ok (.exit id) t h n) (.ok .ret t h n) e) (BR "") (fun w=>.fail w) (fun _ _ a b=>.both a b) (body t h n):=rfl
 rw [e] at hs
 generalize body t h n=r at hs
 clear e
 induction r with
 | ok e t h n=>cases e <;> exact hs
 | rv _ _ _=>exact hs.elim
 | fail _=>exact hs.elim
 | both a b iha ihb=>exact ⟨iha hs.1,ihb hs.2⟩
def Vl (id:Nat) (κ:S->Heap->K4->R) (Φ:R->Prop):R->Prop
 | .ok .nrm t h n=>(κ t h n).sat Φ
 | .ok (.exit j) t h n=>(j=id∧(κ t h n).sat Φ)∨(j≠id∧Φ (.ok (.exit j) t h n))
 | .ok .ret t h n=>Φ (.ok .ret t h n)
 | _=>False
theorem GX {id:Nat} {κ:S->Heap->K4->R} {Φ:R->Prop}:∀ {r:R},(Ad id r κ).sat Φ->r.sat (Vl id κ Φ)
 | .ok e t h n,hs=>by
  cases e with
  | nrm=>exact hs
  | ret=>exact hs
  | exit j =>
   have hs:(br (Nat.beq j id) (κ t h n) (R.ok (.exit j) t h n)).sat Φ:=hs
   cases hj:Nat.beq j id with
   | true=>rw [hj] at hs; exact .inl ⟨Nat.eq_of_beq_eq_true hj,hs⟩
   | false=>rw [hj] at hs; exact .inr ⟨fun e=>by subst e; simp at hj,hs⟩
 | .rv _ _ _,hs=>hs.elim
 | .fail _,hs=>hs.elim
 | .both a b,hs=>⟨GX (r:=a) hs.1,GX (r:=b) hs.2⟩
def QY (P:Program) (ρ:Env) (B N:Nat) (sm:SM) (C:Code) (t:Regs) (h:Heap) (n:K4) (Φ:R->Prop):Prop :=
 ∀ φ a w,TR ρ N φ t a->Gam ρ B h n φ w->∀ (Q:Exit->Act->World->Prop),
  (∀ e t1 h1 n1,Φ (.ok e t1 h1 n1)->∀ φ' a' w' tf,Fr h h1 φ φ' n n1 w w'->Gam ρ B h1 n1 φ' w'->TR ρ N φ' tf a'->(∀ p s,Cc p sm=some s->S.get s t1=Bf p tf)->Q (O7 e) a' w')->C.wp P Q a w
def Rc (P:Program) (ρ:Env) (B N:Nat) (sm:SM) (cf2:He) (C:Code):Prop :=
 ∀ (rest:M8) (rOk:List K2->Bool) (dom:List K2) (env:Ren) (t:Regs) (t':S) (h:Heap) (n:K4) (Φ:R->Prop),
  J2 sm (Bb P N C) rOk dom=true->RI sm dom env t t'->(Gw sm cf2 (Bb P N C) rest env t' h n).sat Φ →
  ∀ φ a w,TR ρ N φ t a->Gam ρ B h n φ w->∀ (Q:Exit->Act->World->Prop),
   (∀ e t1 h1 n1,Φ (.ok e t1 h1 n1)->e ≠ .nrm->∀ φ' a' w' tf,Fr h h1 φ φ' n n1 w w'->Gam ρ B h1 n1 φ' w'->TR ρ N φ' tf a'->(∀ p s,Cc p sm=some s->S.get s t1=Bf p tf)->Q (O7 e) a' w') →
   ((Bb P N C).ends=false->∀ dom2 env2 t2 t2' h2 n2,rOk dom2=true->RI sm dom2 env2 t2 t2'->(rest env2 t2' h2 n2).sat Φ->∀ φ2 a2 w2,Fr h h2 φ φ2 n n2 w w2->Gam ρ B h2 n2 φ2 w2->TR ρ N φ2 t2 a2->Q .normal a2 w2) →
   C.wp P Q a w
theorem Rc.join {C:Code} (H:Rc P ρ B N sm cf2 C) {dom:List K2} {env:Ren} {t:Regs} {t':S} {h:Heap} {n:K4} {Φ:R->Prop} (hok:J2 sm (Bb P N C) (fun _=>true) dom=true) (ri:RI sm dom env t t')
  (hx:(Gw sm cf2 (Bb P N C) r0 env t' h n).sat Φ):QY P ρ B N sm C t h n Φ:=by
 intro φ a w hT g Q hQ
 refine H r0 _ dom env t t' h n Φ hok ri hx φ a w hT g Q (fun e t1 h1 n1 hΦ _ φ' a' w' tf f1 g1 T1 hk=>hQ e t1 h1 n1 hΦ φ' a' w' tf f1 g1 T1 hk) fun _ dom2 env2 t2 t2' h2 n2 _ ri2 hr φ2 a2 w2 f2 g2 T2=>?_
 have hr:Φ (R.ok .nrm t2' h2 n2):=hr
 exact hQ _ _ _ _ hr φ2 a2 w2 t2 f2 g2 T2 ri2.keep
theorem SR {o:Oper} {d:Option K2} (h:U6 N o=some d):OW N o.dst d:=by
 unfold U6 at h
 cases hd:o.dst with
 | none=>rw [hd] at h; cases h; trivial
 | some s =>
  rw [hd] at h
  obtain ⟨p,hp,rfl⟩:=An h
  exact Dc hp
theorem KD {ops:Array Oper}:∀ {l:List Oper} {pre:List AOp} {sp:Sp} {d:Option K2} {post:List AOp},NG P N ops l=some (pre,sp,d,post) →
  ∃ l1 o l2,l=l1++o::l2∧Gx P N ops l1=some pre∧Wv P N o=some sp∧o.guard=none∧OW N o.dst d∧Gx P N ops l2=some post
 | [],pre,sp,d,post,h=>by cases h
 | o::l,pre,sp,d,post,h=>by
  unfold NG at h
  split at h
  ·rename_i sp' hsp
   split at h
   ·rename_i d' post' hg hd hp
    cases h
    exact ⟨[],o,l,rfl,rfl,hsp,hg,SR hd,hp⟩
   ·cases h
  ·split at h
   ·cases h
   ·rename_i r hr
    split at h
    ·rename_i x hx
     obtain ⟨pre',sp',d',post'⟩:=r
     cases h
     obtain ⟨l1,o',l2,rfl,h1,h2,h3,h4,h5⟩:=KD hr
     refine ⟨o::l1,o',l2,rfl,?_,h2,h3,h4,h5⟩
     simp only [Gx,hx,h1]
    ·cases h
theorem UR {cf:CF} {cf2:He} (hcf:Hh P ρ B cf) (hR:Hi P ρ B cf) (h2:∀ f,cf2 (B8 f)=cf f) {o:Oper} {sp:Sp} (hc:Wv P N o=some sp) {t:Regs} {h:Heap} {n:K4}:TB P ρ B N o t h n (TU cf2 sp (fun x κ=>κ (ev x t)) h n):=by
 have tl:∀ (l:List Opd) (κ:List V->R),Fn (fun x κ=>κ (ev x t)) l κ=κ (l.map (ev · t)):=fun l κ=>F6 (fun x _ κ=>rfl)
 unfold Wv at hc
 split at hc
 ·rename_i ty x ho
  split at hc
  ·rename_i kt e ht
   obtain ⟨x',hx,rfl⟩:=An hc
   exact (PZ ho hx ht).sp.in_
  ·cases hc
 ·rename_i x s ho
  split at hc
  ·cases hc
  ·rename_i hs
   obtain ⟨x',hx,rfl⟩:=An hc
   have:s=false:=by simpa using hs
   subst this
   exact (Uh ho hx).in_
 ·rename_i x ho
  obtain ⟨x',hx,rfl⟩:=An hc
  exact (PF ho hx).sp.in_
 ·rename_i ct ho
  split at hc
  ·rename_i f hcal
   split at hc
   ·obtain ⟨l,hl,rfl⟩:=An hc
    have e:TU cf2 (.tcl f l) (fun x κ=>κ (ev x t)) h n=fun κ=>Da (cf2 (B8 f) (l.map (ev · t)) h n) κ:=by
     funext κ
     exact tl l _
    rw [e]
    exact (TM hcf h2 ho hcal hl).in_
   ·cases hc
  ·rename_i s hcal
   split at hc
   ·rename_i x l hx hl
    cases hc
    have e:TU cf2 (.dcl x l) (fun x κ=>κ (ev x t)) h n=fun κ=>Jl cf2 (ev x t) (l.map (ev · t)) h n κ:=by
     funext κ
     exact tl l _
    rw [e]
    exact TO hcf hR h2 ho hcal hx hl
   ·cases hc
  ·cases hc
 ·cases hc
theorem Uj (hρ:Bn ρ) (hm:P.follows .mixedOrders=true) (hct:Hh P ρ B cf) (hR:Hi P ρ B cf) (h2:∀ f,cf2 (B8 f)=cf f):∀ C:Code,Rc P ρ B N sm cf2 C:=by
 have hcf:=hct.ok
 intro C
 induction C with
 | skip=>intro rest rOk dom env t t' h n Φ hok ri hx φ a w hT g Q hex hre; exact wp_skip (hre rfl dom env t t' h n hok ri hx φ a w (Fr.refl h φ n w) g hT)
 | label l=>intro rest rOk dom env t t' h n Φ hok ri hx φ a w hT g Q hex hre; exact wp_label (hre rfl dom env t t' h n hok ri hx φ a w (Fr.refl h φ n w) g hT)
 | exit id =>
  intro rest rOk dom env t t' h n Φ hok ri hx φ a w hT g Q hex hre
  exact wp_exit (hex _ _ _ _ hx (fun h=>by cases h) φ a w t (Fr.refl h φ n w) g hT ri.keep)
 | ret =>
  intro rest rOk dom env t t' h n Φ hok ri hx φ a w hT g Q hex hre
  exact wp_ret (hex _ _ _ _ hx (fun h=>by cases h) φ a w t (Fr.refl h φ n w) g hT ri.keep)
 | region id ops draw =>
  intro rest rOk dom env t t' h n Φ hok ri hx φ a w hT g Q hex hre
  cases draw with
  | true =>
   have hok:J2 sm (Ch P N ops true) rOk dom=true:=hok
   have hx:(Gw sm cf2 (Ch P N ops true) rest env t' h n).sat Φ:=hx
   have hre:(Ch P N ops true).ends=false->_:=hre
   unfold Ch at hok hx hre
   split at hx
   ·exact hx.elim
   ·rename_i os hos
    simp only [hos,if_true] at hok hre
    simp only [if_true] at hx
    split at hx
    ·rename_i hpl
     rw [if_pos hpl] at hok hre
     have hre:=hre rfl
     have good:=Plot.good_of_ok hpl
     have hok:(Hx sm ((C0 (ops.toList.map CQ) os).sk.map (Kn os)) dom&&rOk (Hv ((C0 (ops.toList.map CQ) os).sk.map (Kn os)) dom))=true:=hok
     rw [Bool.and_eq_true] at hok
     have run:∀ (b n0:K4),(Dn sm cf2 b ((C0 (ops.toList.map CQ) os).sk.map (Kn os)) env t' h h n0 (fun env t _ h n=>rest env t h n)).sat Φ →
       ((C0 (ops.toList.map CQ) os).HasAl->b.d = .d0)->((C0 (ops.toList.map CQ) os).HasAl->n.toN≤b.toN)->((C0 (ops.toList.map CQ) os).HasAl->b.toN+16≤n0.toN)->n.toN≤n0.toN->(Code.region id ops true).wp P Q a w:=fun b n0 hx k1 k2 k3 k4=>by
      obtain ⟨st,env1,t1',s0,hst,ri1,e3⟩:=HK h2 (s:=⟨t,h,h,n0⟩) hok.1 ri (R.sat_good hx)
      have e3:Dn sm cf2 b ((C0 (ops.toList.map CQ) os).sk.map (Kn os)) env t' h h n0 (fun env t _ h n=>rest env t h n)=_:=e3
      rw [e3,List.length_map] at hx
      rw [List.length_map] at ri1
      have r:Rn P N ops os (C0 (ops.toList.map CQ) os) cf b st:=⟨good,hos,rfl,fun l x hlx=>hst l _ (by rw [List.getElem?_map,hlx]; rfl)⟩
      refine Qc (φ:=φ) hρ hm hcf r s0 k1 k2 k3 k4 hT g fun φ' a' w' f1 g1 T1=>?_
      exact hre _ env1 _ t1' _ _ hok.2 ri1 hx φ' a' w' f1 g1 T1
     have hx:(QJ ((C0 (ops.toList.map CQ) os).sk.any SI.isAl) n (fun b n=>Dn sm cf2 b ((C0 (ops.toList.map CQ) os).sk.map (Kn os)) env t' h h n fun env t _ h n=>rest env t h n)).sat Φ:=hx
     cases hal:(C0 (ops.toList.map CQ) os).sk.any SI.isAl with
     | false =>
      have hn:=Yg good hal
      rw [hal] at hx
      exact run n n hx (fun h=>absurd h hn) (fun h=>absurd h hn) (fun h=>absurd h hn) (Nat.le_refl _)
     | true =>
      rw [hal] at hx
      have hx:(n.nx16 (fun b=>b.nx16 fun n0=>Dn sm cf2 b ((C0 (ops.toList.map CQ) os).sk.map (Kn os)) env t' h h n0 fun env t _ h n=>rest env t h n)).sat Φ:=hx
      rcases K4.nx16_eq n (fun b=>b.nx16 fun n0=>Dn sm cf2 b ((C0 (ops.toList.map CQ) os).sk.map (Kn os)) env t' h h n0 fun env t _ h n=>rest env t h n) with ⟨w',e1⟩ | ⟨b,hbn,hb0,e1⟩
      ·rw [e1] at hx; exact hx.elim
      ·rw [e1] at hx
       rcases K4.nx16_eq b (fun n0=>Dn sm cf2 b ((C0 (ops.toList.map CQ) os).sk.map (Kn os)) env t' h h n0 fun env t _ h n=>rest env t h n) with ⟨w',e2⟩ | ⟨n0,hn0,_,e2⟩
       ·rw [e2] at hx; exact hx.elim
       ·rw [e2] at hx
        have hbn':=Q2 hbn hb0 hn0
        exact run b n0 hx (fun _=>hb0) (fun _=>hbn'.1) (fun _=>by omega) (by omega)
    ·exact hx.elim
  | false =>
   have hok:J2 sm (match NG P N ops ops.toList with | some r=>.spl r.1 r.2.1 r.2.2.1 r.2.2.2 | none=>Ch P N ops false) rOk dom=true:=hok
   have hx:(Gw sm cf2 (match NG P N ops ops.toList with | some r=>.spl r.1 r.2.1 r.2.2.1 r.2.2.2 | none=>Ch P N ops false) rest env t' h n).sat Φ:=hx
   have hre:AC.ends (match NG P N ops ops.toList with | some r=>.spl r.1 r.2.1 r.2.2.1 r.2.2.2 | none=>Ch P N ops false)=false->_:=hre
   cases hspl:NG P N ops ops.toList with
   | some r =>
    rw [hspl] at hok hx hre
    obtain ⟨pre,sp,d,post⟩:=r
    have hre:=hre rfl
    obtain ⟨l1,o,l2,hl,c1,c2,c3,c4,c5⟩:=KD hspl
    have hok:(FM sm pre dom&&(OX sm (CA pre dom) sp&&(FM sm post (Fx d (CA pre dom))&&rOk (CA post (Fx d (CA pre dom))))))=true:=hok
    rw [Bool.and_eq_true,Bool.and_eq_true,Bool.and_eq_true] at hok
    obtain ⟨k1,k2,k3,k4⟩:=hok
    have hx:(D4 sm cf2 pre env t' h n fun env t h n=>TU cf2 sp (Bk sm env t) h n fun v h n=>CX sm d t v fun t=>D4 sm cf2 post (BF d v env) t h n rest).sat Φ:=hx
    obtain ⟨env1,t2,t2',h2',n2,e2,ri1,H⟩:=Dj (B:=B) (ops:=ops) hρ hcf h2 c1 k1 ri (R.sat_good hx)
    rw [e2] at hx
    refine (wpIn_wide (n:=0)).1 (wpIn_region_list ?_)
    rw [hl]
    refine DD (l:=none) (.inl rfl) (H φ a w hT g Q (wpListIn (Lf none) 0 P ops Q (o::l2)) fun φ' a' w' f1 g1 T1=>?_)
    have one:∀ x:Opd,E0 sm (CA pre dom) x=true->∀ κ:V->R,Bk sm env1 t2' x κ=κ (ev x t2):=fun x hk κ=>by
     cases x with
     | c v=>rfl
     | t p=>exact ri1.tell hk κ
    have lst:∀ l:List Opd,l.all (E0 sm (CA pre dom))=true->∀ κ:List V->R,Fn (Bk sm env1 t2') l κ=Fn (fun x κ=>κ (ev x t2)) l κ:=fun l hk κ=>by
     rw [F6 (t:=t2) (fun x hx=>one x (List.all_eq_true.1 hk x hx)),F6 (t:=t2) (fun x _ κ=>rfl)]
    have et:TU cf2 sp (Bk sm env1 t2') h2' n2=TU cf2 sp (fun x κ=>κ (ev x t2)) h2' n2:=by
     funext κ
     cases sp with
     | rng x=>exact one x k2 _
     | nxt x=>exact one x k2 _
     | ent x=>exact one x k2 _
     | tcl f l=>exact lst l k2 _
     | dcl x l =>
      have k2:(E0 sm (CA pre dom) x&&l.all (E0 sm (CA pre dom)))=true:=k2
      rw [Bool.and_eq_true] at k2
      exact (one x k2.1 _).trans (lst l k2.2 _)
    rw [et] at hx
    have hw:Region.wanted o (yielded ops a'.tmps)=true:=by simp [Region.wanted,c3]
    have st:=UR (P:=P) (ρ:=ρ) (B:=B) hct hR h2 c2 _ Φ hx φ' a' w' T1 g1 (wpListIn (Lf none) 0 P ops Q l2) Q fun v h3 n3 hs φ2 x w2 f2 g2 r2=>by
     obtain ⟨t3',e3,ri3⟩:=ri1.put d v (fun t=>D4 sm cf2 post (BF d v env1) t h3 n3 rest)
     have hs:(CX sm d t2' v fun t=>D4 sm cf2 post (BF d v env1) t h3 n3 rest).sat Φ:=hs
     rw [e3] at hs
     obtain ⟨env4,t4,t4',h4,n4,e4,ri4,H4⟩:=Dj (B:=B) (ops:=ops) hρ hcf h2 c5 k3 ri3 (R.sat_good hs)
     rw [e4] at hs
     have:=DD (l:=none) (n:=0) (r:=[]) (.inl rfl) (H4 φ2 _ w2 ((T1.mono f2.ext).puts c4 r2) g2 Q (wpListIn (Lf none) 0 P ops Q []) fun φ3 a3 w3 f3 g3 T3=>hre _ env4 t4 t4' h4 n4 k4 ri4 hs φ3 a3 w3 (Fr.trans f1 (Fr.trans f2 f3)) g3 T3)
     rwa [List.append_nil] at this
    show wpListIn (Lf none) 0 P ops Q (o::l2) a' w'
    simp only [wpListIn]
    rw [if_pos hw]
    exact st
   | none =>
   rw [hspl] at hok hx hre
   have hok:J2 sm (Ch P N ops false) rOk dom=true:=hok
   have hx:(Gw sm cf2 (Ch P N ops false) rest env t' h n).sat Φ:=hx
   have hre:(Ch P N ops false).ends=false->_:=hre
   unfold Ch at hok hx hre
   split at hx
   ·exact hx.elim
   ·rename_i al hal
    simp only [hal,Bool.false_eq_true,if_false] at hok hre
    simp only [Bool.false_eq_true,if_false] at hx
    have hre:=hre rfl
    have hok:(FM sm al dom&&rOk (CA al dom))=true:=hok
    rw [Bool.and_eq_true] at hok
    have hx:(D4 sm cf2 al env t' h n rest).sat Φ:=hx
    obtain ⟨env1,t2,t2',h2',n2,e2,ri1,H⟩:=O2 (B:=B) (ops:=ops) hρ hcf h2 hal hok.1 ri (R.sat_good hx)
    rw [e2] at hx
    exact wp_region_list (H φ a w hT g Q fun φ' a' w' f1 g1 T1=>hre _ env1 t2 t2' h2' n2 hok.2 ri1 hx φ' a' w' f1 g1 T1)
 | seq x y ihx ihy =>
  intro rest rOk dom env t t' h n Φ hok ri hx φ a w hT g Q hex hre
  have hok:J2 sm (Bb P N x) (J2 sm (Bb P N y) rOk) dom=true:=hok
  have hx:(Gw sm cf2 (Bb P N x) (Gw sm cf2 (Bb P N y) rest) env t' h n).sat Φ:=hx
  have hre:or (Bb P N x).ends (Bb P N y).ends=false->_:=hre
  refine wp_seq (ihx _ _ dom env t t' h n Φ hok ri hx φ a w hT g _ (fun e t1 h1 n1 hΦ hne φ' a' w' tf f1 g1 T1 hk=>?_) fun he dom2 env2 t2 t2' h2' n2 hok2 ri2 hr φ2 a2 w2 f2 g2 T2=>?_)
  ·have:=hex e t1 h1 n1 hΦ hne φ' a' w' tf f1 g1 T1 hk
   cases e with
   | nrm=>exact absurd rfl hne
   | exit id=>exact this
   | ret=>exact this
  ·exact ihy rest rOk dom2 env2 t2 t2' h2' n2 Φ hok2 ri2 hr φ2 a2 w2 T2 g2 Q (fun e t1 h1 n1 hΦ hne φ' a' w' tf f1 g1 T1 hk=>hex e t1 h1 n1 hΦ hne φ' a' w' tf (Fr.trans f2 f1) g1 T1 hk)
    fun he' dom3 env3 t3 t3' h3 n3 hok3 ri3 hr3 φ3 a3 w3 f3 g3 T3=>hre (by rw [he,he']; rfl) dom3 env3 t3 t3' h3 n3 hok3 ri3 hr3 φ3 a3 w3 (Fr.trans f2 f3) g3 T3
 | cond c x y ihx ihy =>
  intro rest rOk dom env t t' h n Φ hok ri hx φ a w hT g Q hex hre
  have hok:J2 sm (match AR N c with | some c=>.cond c (Bb P N x) (Bb P N y) | none=>.bad "a test") rOk dom=true:=hok
  have hx:(Gw sm cf2 (match AR N c with | some c=>.cond c (Bb P N x) (Bb P N y) | none=>.bad "a test") rest env t' h n).sat Φ:=hx
  have hre:AC.ends (match AR N c with | some c=>.cond c (Bb P N x) (Bb P N y) | none=>.bad "a test")=false->_:=hre
  split at hx
  ·rename_i c' hc
   simp only [hc] at hok hre
   have hre:and (Bb P N x).ends (Bb P N y).ends=false->_:=hre
   have hok:(E0 sm dom c'&&br (Bb P N x).ends (J2 sm (Bb P N x) (fun _=>true) dom&&J2 sm (Bb P N y) rOk dom) (br (Bb P N y).ends (J2 sm (Bb P N x) rOk dom&&J2 sm (Bb P N y) (fun _=>true) dom) (J2 sm (Bb P N x) (fun _=>true) dom&&(J2 sm (Bb P N y) (fun _=>true) dom&&rOk []))))=true:=hok
   rw [Bool.and_eq_true] at hok
   have hx:(Bk sm env t' c' (fun v=>S1 (Bb P N x).ends (Bb P N y).ends v (Gw sm cf2 (Bb P N x)) (Gw sm cf2 (Bb P N y)) rest env t' h n)).sat Φ:=hx
   have e0:∀ κ:V->R,Bk sm env t' c' κ=κ (ev c' t):=fun κ=>by
    cases c' with
    | c v=>rfl
    | t p=>exact ri.tell hok.1 κ
   rw [e0] at hx
   have g1:=Aj hc hT
   generalize hv:ev c' t=v at hx g1
   obtain ⟨_,hok⟩:=hok
   unfold S1 at hx
   -- the value is a bool
   have key:∀ (A C:R) (κ:R->R),(∀ s,κ (.fail s) = .fail s)->(∀ x y,κ (.both x y) = .both (κ x) (κ y))->(κ (Am v A C)).sat Φ->∃ q,a.eval c = .bool q∧(κ (br q A C)).sat Φ:=fun A C κ hκ hb hh=>by
    have no:(κ (.fail "")).sat Φ->∃ q,a.eval c = .bool q∧(κ (br q A C)).sat Φ:=fun hh=>by rw [hκ] at hh; exact hh.elim
    cases v with
    | bool q=>exact ⟨q,DV g1,by cases q <;> exact hh⟩
    | oth o=>cases o with
     | bl =>
      have g1:=g1
      simp only [AF] at g1
      obtain ⟨q,hq⟩:=g1
      have hh:(κ (.both A C)).sat Φ:=hh
      rw [hb] at hh
      exact ⟨q,hq,by cases q; exact hh.2; exact hh.1⟩
     | _=>exact no hh
    | _=>exact no hh
   cases hex':(Bb P N x).ends with
   | true =>
    rw [hex'] at hx hok hre
    have hok:(J2 sm (Bb P N x) (fun _=>true) dom&&J2 sm (Bb P N y) rOk dom)=true:=hok
    rw [Bool.and_eq_true] at hok
    obtain ⟨q,hq,hx⟩:=key _ _ id (fun _=>rfl) (fun _ _=>rfl) hx
    refine wp_cond hq ?_
    cases q with
    | true=>exact ihx r0 _ dom env t t' h n Φ hok.1 ri hx φ a w hT g Q hex fun he=>by rw [hex'] at he; cases he
    | false=>exact ihy rest rOk dom env t t' h n Φ hok.2 ri hx φ a w hT g Q hex fun he=>hre (by rw [he]; rfl)
   | false =>
    rw [hex'] at hx hok hre
    have hre:=hre rfl
    cases hey:(Bb P N y).ends with
    | true =>
     rw [hey] at hx hok
     have hok:(J2 sm (Bb P N x) rOk dom&&J2 sm (Bb P N y) (fun _=>true) dom)=true:=hok
     rw [Bool.and_eq_true] at hok
     obtain ⟨q,hq,hx⟩:=key _ _ id (fun _=>rfl) (fun _ _=>rfl) hx
     refine wp_cond hq ?_
     cases q with
     | true=>exact ihx rest rOk dom env t t' h n Φ hok.1 ri hx φ a w hT g Q hex fun _=>hre
     | false=>exact ihy r0 _ dom env t t' h n Φ hok.2 ri hx φ a w hT g Q hex fun he=>by rw [hey] at he; cases he
    | false =>
     rw [hey] at hx hok
     have hok:(J2 sm (Bb P N x) (fun _=>true) dom&&(J2 sm (Bb P N y) (fun _=>true) dom&&rOk []))=true:=hok
     rw [Bool.and_eq_true,Bool.and_eq_true] at hok
     obtain ⟨q,hq,hx⟩:=key _ _ (fun r=>AS r fun t h n=>rest [] t h n) (fun _=>rfl) (fun _ _=>rfl) hx
     refine wp_cond hq ?_
     have fin:∀ (Z:Code),QY P ρ B N sm Z t h n (QU (fun t h n=>rest [] t h n) Φ)->Z.wp P Q a w:=fun Z HZ=>by
      refine HZ φ a w hT g Q fun e0 t0 h0 n0 hj φ' a' w' tf f1 g1 T1 hk=>?_
      cases e0 with
      | nrm=>exact hre [] [] tf t0 h0 n0 hok.2.2 (RI.start ri.inj hk) hj φ' a' w' f1 g1 T1
      | exit id=>exact hex _ _ _ _ hj (fun h=>by cases h) φ' a' w' tf f1 g1 T1 hk
      | ret=>exact hex _ _ _ _ hj (fun h=>by cases h) φ' a' w' tf f1 g1 T1 hk
     cases q with
     | true=>exact fin x (ihx.join hok.1 ri (Gl hx))
     | false=>exact fin y (ihy.join hok.2.1 ri (Gl hx))
  ·exact hx.elim
 | block id b ih =>
  intro rest rOk dom env t t' h n Φ hok ri hx φ a w hT g Q hex hre
  have hok:(J2 sm (Bb P N b) (fun _=>true) dom&&rOk [])=true:=hok
  rw [Bool.and_eq_true] at hok
  have hx:(Ad id (Gw sm cf2 (Bb P N b) r0 env t' h n) (fun t h n=>rest [] t h n)).sat Φ:=hx
  have hre:=hre rfl
  refine wp_block (ih.join hok.1 ri (GX hx) φ a w hT g _ fun e0 t0 h0 n0 hx φ' a' w' tf f1 g1 T1 hk=>?_)
  cases e0 with
  | nrm=>exact hre [] [] tf t0 h0 n0 hok.2 (RI.start ri.inj hk) hx φ' a' w' f1 g1 T1
  | exit j =>
   show (if j=id then Q .normal a' w' else Q (.exit j) a' w')
   rcases hx with ⟨hj,hx⟩ | ⟨hj,hx⟩
   ·rw [if_pos hj]; exact hre [] [] tf t0 h0 n0 hok.2 (RI.start ri.inj hk) hx φ' a' w' f1 g1 T1
   ·rw [if_neg hj]; exact hex _ _ _ _ hx (fun h=>by cases h) φ' a' w' tf f1 g1 T1 hk
  | ret=>exact hex _ _ _ _ hx (fun h=>by cases h) φ' a' w' tf f1 g1 T1 hk
 | loop b ih =>
  intro rest rOk dom env t t' h n Φ hok ri hx φ a w hT g Q hex hre
  have hok:J2 sm (Bb P N b) (fun _=>true) []=true:=hok
  have hx:(Ej (fun t h n=>Gw sm cf2 (Bb P N b) r0 [] t h n) 1000000000 t' h n).sat Φ:=hx
  refine wp_loop_rounds 1000000000 ?_
  have key:∀ (k:Nat) (t:Regs) (t':S) (h:Heap) (n:K4),(∀ p s,Cc p sm=some s->S.get s t'=Bf p t)->(Ej (fun t h n=>Gw sm cf2 (Bb P N b) r0 [] t h n) k t' h n).sat Φ->∀ φ a w,TR ρ N φ t a->Gam ρ B h n φ w →
    (∀ e t1 h1 n1,Φ (.ok e t1 h1 n1)->e ≠ .nrm->∀ φ' a' w' tf,Fr h h1 φ φ' n n1 w w'->Gam ρ B h1 n1 φ' w'->TR ρ N φ' tf a'->(∀ p s,Cc p sm=some s->S.get s t1=Bf p tf)->Q (O7 e) a' w')->Code.rounds P b Q k a w:=by
   intro k
   induction k with
   | zero=>intro t t' h n _ hx; exact hx.elim
   | succ k ihk =>
    intro t t' h n hk0 hx φ a w hT g hQ
    refine ih.join hok (RI.start ri.inj hk0) (SG hx) φ a w hT g _ fun e0 t0 h0 n0 hx φ' a' w' tf f1 g1 T1 hk=>?_
    cases e0 with
    | nrm=>exact ihk tf t0 h0 n0 hk hx φ' a' w' T1 g1 fun e t1 h1 n1 hΦ hne φ2 a2 w2 tf2 f2 g2 T2 hk2=>hQ e t1 h1 n1 hΦ hne φ2 a2 w2 tf2 (Fr.trans f1 f2) g2 T2 hk2
    | exit id=>exact hQ _ _ _ _ hx (fun h=>by cases h) φ' a' w' tf f1 g1 T1 hk
    | ret=>exact hQ _ _ _ _ hx (fun h=>by cases h) φ' a' w' tf f1 g1 T1 hk
  exact key _ t t' h n ri.keep hx φ a w hT g hex
 | rangeFunc _ _ _ _=>intro rest rOk dom env t t' h n Φ hok ri hx; exact hx.elim
 | scope _=>intro rest rOk dom env t t' h n Φ hok ri hx; exact hx.elim
 | goto _=>intro rest rOk dom env t t' h n Φ hok ri hx; exact hx.elim
 | refuse _=>intro rest rOk dom env t t' h n Φ hok ri hx; exact hx.elim
end
end Go.Ev

namespace Go.Ev
set_option linter.unusedVariables false
def Ug (v:V):List K4->List K4 :=
 @V.rec (fun _=>List K4->List K4) (fun _=>List K4->List K4)
  (fun _ _ a=>a) (fun _ a=>a) (fun p _ a=>p::a) (fun p _ _ _ _ _ a=>p::a) (fun _ _ a=>a) (fun _ ih a=>ih a) (fun _ a=>a) (fun p a=>p::a) (fun _ _ ih a=>ih a) (fun _ ih a=>ih a) (fun _ a=>a)
  (fun a=>a) (fun _ _ ihx ihl a=>ihx (ihl a)) v
def TL (l:List V) (a:List K4):List K4:=@List.rec V (fun _=>List K4) a (fun v _ ih=>Ug v ih) l
def Yx (es:List (V×V)) (a:List K4):List K4:=@List.rec (V×V) (fun _=>List K4) a (fun e _ ih=>@Prod.rec V V (fun _=>List K4) (fun x y=>Ug x (Ug y ih)) e) es
def Ry (o:Ob) (a:List K4):List K4 :=
 @Ob.rec (fun _=>List K4) (fun cs _ _=>@Cs.rec (fun _=>List K4) (fun xs=>TL xs a) (fun _ _=>a) cs) (fun es _ _=>Yx es a) (fun _ _ _ _=>a) a (fun _ _=>a) o
def H3 (o:Ob):Bool:=@Ob.rec (fun _=>Bool) (fun _ sup _=>@Bool.rec (fun _=>Bool) true false sup) (fun _ _ _=>true) (fun _ _ _ _=>false) false (fun _ _=>false) o
def Mz (o:Ob):Ob:=@Ob.rec (fun _=>Ob) (fun cs sup _=>.c cs sup none) (fun es bs c=>.m es bs c) (fun p s l c=>.it p s l c) .it0 (fun f b=>.lp f b) o
theorem Q3 (o:Ob):BL (Mz o)=none:=by cases o <;> rfl
theorem SC {ρ:Env} {φ:B0} {w:World} {o:Ob} {b s tot:Nat} (h:Fu ρ φ w o b s tot):Fu ρ φ w (Mz o) b s tot:=by cases o <;> exact h
def Dy (h:Heap) (k:Nat):List K4->Heap->List K4->(Heap->List K4->R)->R :=
 @Nat.rec (fun _=>List K4->Heap->List K4->(Heap->List K4->R)->R) (fun _ hs acc κ=>κ hs acc)
  (fun _ ih todo hs acc κ=>@List.rec K4 (fun _=>R) (κ hs acc) (fun p todo _=>Br p hs fun o=>@Option.rec Ob (fun _=>R)
   (Br p h fun o=>@Option.rec Ob (fun _=>R) (ih todo hs acc κ) (fun ob=>br (H3 ob) (BP p hs (some (Mz ob)) fun hs=>ih (Ry ob todo) hs (p::acc) κ) (ih todo hs acc κ)) o)
   (fun _=>ih todo hs acc κ) o) todo) k
def Mn (p n:K4):Bool:=Nat.ble (Nat.succ p.toN) n.toN
def EI (n:K4) (v:V):Bool :=
 @V.rec (fun _=>Bool) (fun _=>Bool)
  (fun _ _=>true) (fun _=>true) (fun p _=>Mn p n) (fun p _ _ _ _ _=>Mn p n) (fun _ _=>true) (fun _ ih=>ih) (fun _=>true) (fun p=>Mn p n) (fun _ _ ih=>ih) (fun _ ih=>ih) (fun o=>@Ot.rec (fun _=>Bool) true (fun _=>true) (fun p=>Mn p n) false (fun _ _ _=>true) (fun _ _=>true) true (fun _ _=>true) (fun _ _ _ _=>true) (fun _ _ _ _=>true) (fun _ _ _=>true) (fun _ _=>true) o)
  true (fun _ _ ihx ihl=>br ihx ihl false) v
def Jo (n:K4) (l:List V):Bool:=EI n (.tup l)
def JQ (p:Option K4) (κ:R):R:=@Option.rec K4 (fun _=>R) κ (B2 "") p
def OF (n:K4) (a b:Cs) (κ:R):R :=
 @Cs.rec (fun _=>R) (fun xs=>@Cs.rec (fun _=>R) (fun ys=>br (Jo n xs) (Aw (.tup xs) (.tup ys) κ) (.fail "")) (AN "") b)
  (fun m c=>@Cs.rec (fun _=>R) (B2 "") (fun m' c'=>br (Nat.beq m m') (br (Nat.beq c c') κ (.fail "")) (.fail "")) b) a
def Jr (n:K4) (a:List (V×V)):List (V×V)->R->R :=
 @List.rec (V×V) (fun _=>List (V×V)->R->R) (fun b κ=>@List.rec (V×V) (fun _=>R) κ (BR "") b)
  (fun e _ ih b κ=>@List.rec (V×V) (fun _=>R) (.fail "") (fun e' b _=>@Prod.rec V V (fun _=>R) (fun x y=>@Prod.rec V V (fun _=>R) (fun x' y'=>br (EI n x) (br (EI n y) (Aw x x' (Aw y y' (ih b κ))) (.fail "")) (.fail "")) e') e) b) a
def Kg (a:List Nat):List Nat->R->R :=
 @List.rec Nat (fun _=>List Nat->R->R) (fun b κ=>@List.rec Nat (fun _=>R) κ (BR "") b)
  (fun x _ ih b κ=>@List.rec Nat (fun _=>R) (.fail "") (fun y b _=>br (Nat.beq x y) (ih b κ) (.fail "")) b) a
def Pe (n:K4) (a b:Ob) (κ:R):R :=
 @Ob.rec (fun _=>R) (fun cs sup prev=>br sup (.fail "") (JQ prev (@Ob.rec (fun _=>R) (fun cs' sup' prev'=>br sup' (.fail "") (JQ prev' (OF n cs cs' κ))) (BR "") (Fe "") (.fail "") (AN "") b)))
  (fun es bs c=>@Ob.rec (fun _=>R) (BR "") (fun es' bs' c'=>br (Nat.beq c c') (Kg bs bs' (Jr n es es' κ)) (.fail "")) (Fe "") (.fail "") (AN "") b) (Fe "") (.fail "") (AN "") a
def G6 (n:K4) (a b:Cj) (κ:R):R :=
 @Option.rec Ob (fun _=>R) (@Option.rec Ob (fun _=>R) κ (B2 "") b) (fun x=>@Option.rec Ob (fun _=>R) (.fail "") (fun y=>Pe n x y κ) b) a
def Fs (n:K4) (h1 h':Heap) (acc:List K4) (κ:R):R :=
 @List.rec K4 (fun _=>R) κ (fun p _ ih=>Br p h1 fun a=>Br p h' fun b=>G6 n a b ih) acc
def UJ (n:K4) (p:Option K4):Option K4:=@Option.rec K4 (fun _=>Option K4) none (fun q=>@Bool.rec (fun _=>Option K4) none (some q) (Mn q n)) p
def In (n:K4) (o:Cj):Cj:=@Option.rec Ob (fun _=>Cj) none (fun o=>some (@Ob.rec (fun _=>Ob) (fun cs sup prev=>.c cs sup (UJ n prev)) (fun es bs c=>.m es bs c) (fun p s l c=>.it p s l c) .it0 (fun f b=>.lp f b) o)) o
def Hc (n:K4) (v1:V) (h1:Heap) (v':V) (h':Heap) (κ:R):R :=
 br (EI n v1) (Aw v1 v' κ) (CM v1 (.fail "") fun p off len cap ex esz=>CM v' (.fail "") fun p' off' len' cap' ex' esz' =>
  br (Mn p n) (.fail "") (br (Mn p' n) (.fail "") (Aw (.sl p off len cap ex esz) (.sl p off' len' cap' ex' esz') (Br p h1 fun a=>Br p' h' fun b=>G6 n (In n a) (In n b) κ))))
def Oc (r:R):(V->Heap->R)->R :=
 @R.rec (fun _=>(V->Heap->R)->R) (fF5 "") (fun v h _ κ=>κ v h) (fun w _=>.fail w) (fun _ _ iha _ κ=>iha κ) r
def T6 (a b:K4) (κ:K4->R):R:=br (Nat.ble a.toN b.toN) (κ b) (κ a)
def RZ (n:K4) (v1:V) (h1:Heap) (acc:List K4) (r:R):K4->(K4->R)->R :=
 @R.rec (fun _=>K4->(K4->R)->R) (Dl "") (fun v h m mx κ=>Hc n v1 h1 v h (Fs n h1 h acc (T6 m mx κ))) (fun w _ _=>.fail w) (fun _ _ iha ihb mx κ=>iha mx fun mx=>ihb mx κ) r
def PD (o:Ob) (h:Heap) (κ:Heap->R):R:=@Ob.rec (fun _=>R) (fun _ _ prev=>@Option.rec K4 (fun _=>R) (κ h) (fun q=>BP q h none κ) prev) (fun _ _ _=>κ h) (fun _ _ _ _=>κ h) (κ h) (fun _ _=>κ h) o
def ME (h h1:Heap) (acc:List K4):(Heap->R)->R :=
 @List.rec K4 (fun _=>(Heap->R)->R) (fun κ=>κ h)
  (fun p _ ih κ=>ih fun hf=>Br p h fun o=>@Option.rec Ob (fun _=>R) (.fail "") (fun o=>PD o hf fun hf=>Br p h1 fun o1=>BP p hf o1 κ) o) acc
def U2 (n:K4) (v1:V) (h1 hf:Heap) (m:K4):R :=
 br (EI n v1) (.rv v1 hf m) (CM v1 (.fail "") fun p off len cap ex esz=>Br p h1 fun o=>@Option.rec Ob (fun _=>R) (.fail "") (fun ob=>BP m hf (some ob) fun hf=>m.nx fun m'=>.rv (.sl m off len cap ex esz) hf m') (In n o))
def TN (n:K4) (h:Heap) (acc:List K4) (r:R):R :=
 Oc r fun v1 h1=>RZ n v1 h1 acc r n fun m=>ME h h1 acc fun hf=>U2 n v1 h1 hf m
def Ww (k:Nat) (run:Heap->R) (args:List V) (h:Heap) (n:K4):R :=
 Dy h k (TL args []) AM [] fun hs acc=>TN n h acc (run hs)
section
variable {P:Program} {ρ:Env} {B:Nat}
structure Sub (h hs:Heap) (acc:List K4):Prop where
 sub:∀ p o,AE p hs=some o->∃ o0,AE p h=some o0∧o=Mz o0∧H3 o0=true∧p∈acc
 has:∀ p,p∈acc->∃ o,AE p hs=some o
theorem Sub.mem {h hs:Heap} {acc:List K4} (s:Sub h hs acc) {p:K4} {o:Ob} (hp:AE p hs=some o):p∈acc:=by
 obtain ⟨_,_,_,_,m⟩:=s.sub p o hp; exact m
theorem Sub.in_h {h hs:Heap} {acc:List K4} (s:Sub h hs acc) {p:K4} {o:Ob} (hp:AE p hs=some o):∃ o0,AE p h=some o0:=by
 obtain ⟨o0,e,_⟩:=s.sub p o hp; exact ⟨o0,e⟩
theorem Fc {h:Heap}:∀ (k:Nat) {todo:List K4} {hs:Heap} {acc:List K4} {κ:Heap->List K4->R},Sub h hs acc->∃ hs' acc',Sub h hs' acc'∧Dy h k todo hs acc κ=κ hs' acc'
 | 0,todo,hs,acc,κ,s=>⟨hs,acc,s,rfl⟩
 | k+1,[],hs,acc,κ,s=>⟨hs,acc,s,rfl⟩
 | k+1,p::todo,hs,acc,κ,s=>by
  have e:Dy h (k+1) (p::todo) hs acc κ=Br p hs fun o=>@Option.rec Ob (fun _=>R)
   (Br p h fun o=>@Option.rec Ob (fun _=>R) (Dy h k todo hs acc κ) (fun ob=>br (H3 ob) (BP p hs (some (Mz ob)) fun hs=>Dy h k (Ry ob todo) hs (p::acc) κ) (Dy h k todo hs acc κ)) o)
   (fun _=>Dy h k todo hs acc κ) o:=rfl
  rw [e,BC]
  cases h1:AE p hs with
  | some o=>exact Fc k s
  | none =>
   show ∃ hs' acc',Sub h hs' acc'∧(Br p h fun o=>@Option.rec Ob (fun _=>R) (Dy h k todo hs acc κ) (fun ob=>br (H3 ob) (BP p hs (some (Mz ob)) fun hs=>Dy h k (Ry ob todo) hs (p::acc) κ) (Dy h k todo hs acc κ)) o)=κ hs' acc'
   rw [BC]
   cases h2:AE p h with
   | none=>exact Fc k s
   | some ob =>
    show ∃ hs' acc',Sub h hs' acc'∧br (H3 ob) (BP p hs (some (Mz ob)) fun hs=>Dy h k (Ry ob todo) hs (p::acc) κ) (Dy h k todo hs acc κ)=κ hs' acc'
    cases h3:H3 ob with
    | false=>exact Fc k s
    | true =>
     show ∃ hs' acc',Sub h hs' acc'∧(BP p hs (some (Mz ob)) fun hs=>Dy h k (Ry ob todo) hs (p::acc) κ)=κ hs' acc'
     rw [BW,Bz]
     refine Fc k ⟨fun q o hq=>?_,fun q hq=>?_⟩
     ·rcases Bx hq with ⟨rfl,e⟩ | ⟨hne,hq⟩
      ·cases e; exact ⟨ob,h2,rfl,h3,List.mem_cons_self ..⟩
      ·obtain ⟨o0,a,e,b,c⟩:=s.sub q o hq; exact ⟨o0,a,e,b,List.mem_cons_of_mem _ c⟩
     ·by_cases e:p=q
      ·subst e; exact ⟨Mz ob,AB _ _ _⟩
      ·rw [Aq _ _ e]
       rcases List.mem_cons.1 hq with e' | hq
       ·exact absurd e'.symm e
       ·exact s.has q hq
theorem Sub.nil {h:Heap}:Sub h AM []:=⟨fun p o hp=>(by rw [DW] at hp; cases hp),fun p hp=>(by simp at hp)⟩
theorem FD {p n:K4}:Mn p n=true ↔ p.toN<n.toN:=by unfold Mn; rw [Al]; omega
mutual
theorem El {n:K4} {φ1 φ2:B0} (hφ:∀ p x,p.toN<n.toN->φ1 p=some x->φ2 p=some x):∀ {v:V} {x:Value},EI n v=true->AF ρ φ1 v x->AF ρ φ2 v x
 | .int _ _,_,_,r=>by simpa only [AF] using r
 | .bool _,_,_,r=>by simpa only [AF] using r
 | .ptr p _,_,ho,r=>by
  have ho:Mn p n=true:=ho
  simp only [AF] at r ⊢
  obtain ⟨b,s,tot,hp,e⟩:=r
  exact ⟨b,s,tot,hφ _ _ (FD.1 ho) hp,e⟩
 | .sl p _ _ _ _ _,_,ho,r=>by
  have ho:Mn p n=true:=ho
  simp only [AF] at r ⊢
  obtain ⟨b,s,tot,o,c,hp,e⟩:=r
  exact ⟨b,s,tot,o,c,hφ _ _ (FD.1 ho) hp,e⟩
 | .str _ _,_,_,r=>by simpa only [AF] using r
 | .agg l,_,ho,r=>by
  have ho:Jo n l=true:=ho
  simp only [AF] at r ⊢
  obtain ⟨cs,e,hl,hh⟩:=r
  exact ⟨cs,e,Fq hφ ho hl,hh⟩
 | .nil _,_,_,r=>by simpa only [AF] using r
 | .map p,_,ho,r=>by
  have ho:Mn p n=true:=ho
  simp only [AF] at r ⊢
  obtain ⟨b,s,tot,hp,e⟩:=r
  exact ⟨b,s,tot,hφ _ _ (FD.1 ho) hp,e⟩
 | .fn _ l,_,ho,r=>by
  have ho:Jo n l=true:=ho
  simp only [AF] at r ⊢
  obtain ⟨cs,e,hl⟩:=r
  exact ⟨cs,e,Fq hφ ho hl⟩
 | .tup l,_,ho,r=>by
  have ho:Jo n l=true:=ho
  simp only [AF] at r ⊢
  obtain ⟨cs,e,hl⟩:=r
  exact ⟨cs,e,Fq hφ ho hl⟩
 | .oth o,_,ho,r=>by
  cases o with
  | yl p =>
   have ho:Mn p n=true:=ho
   simp only [AF] at r ⊢
   obtain ⟨b,s,tot,hp,e⟩:=r
   exact ⟨b,s,tot,hφ _ _ (FD.1 ho) hp,e⟩
  | _=>simp only [AF] at r ⊢ <;> exact r
theorem Fq {n:K4} {φ1 φ2:B0} (hφ:∀ p x,p.toN<n.toN->φ1 p=some x->φ2 p=some x):∀ {l:List V} {xs:List Value},Jo n l=true->Bs ρ φ1 l xs->Bs ρ φ2 l xs
 | [],_,_,r=>by simpa only [Bs] using r
 | v::l,_,ho,r=>by
  have ho:br (EI n v) (Jo n l) false=true:=ho
  simp only [Bs] at r ⊢
  obtain ⟨y,ys,e,hy,hys⟩:=r
  cases h1:EI n v with
  | false=>rw [h1] at ho; cases ho
  | true =>
   rw [h1] at ho
   exact ⟨y,ys,e,El hφ h1 hy,Fq hφ ho hys⟩
end
theorem NC {n:K4}:∀ {l:List V},Jo n l=true->∀ v∈l,EI n v=true
 | [],_,v,hv=>by simp at hv
 | x::l,ho,v,hv=>by
  have ho:br (EI n x) (Jo n l) false=true:=ho
  cases h1:EI n x with
  | false=>rw [h1] at ho; cases ho
  | true =>
   rw [h1] at ho
   rcases List.mem_cons.1 hv with e | hv
   ·subst e; exact h1
   ·exact NC (show Jo n l=true from ho) v hv
def IS (n:K4):Ob->Prop
 | .c (.l xs) sup prev=>Jo n xs=true∧sup=false∧prev=none
 | .c (.b _ _) sup prev=>sup=false∧prev=none
 | .m es _ _=>∀ e∈es,EI n e.1=true∧EI n e.2=true
 | _=>False
theorem IS.prev {n:K4} {o:Ob} (h:IS n o):BL o=none:=by
 cases o with
 | c cs sup prev=>cases cs with
  | l xs=>exact h.2.2
  | b m c=>exact h.2
 | m es bs c=>rfl
 | it _ _ _ _=>exact h.elim
 | it0=>exact h.elim
 | lp _ _=>exact h.elim
theorem IS.sup {n:K4} {o:Ob} (h:IS n o):Iq o=false:=by
 cases o with
 | c cs sup prev=>cases cs with
  | l xs=>exact h.2.1
  | b m c=>exact h.1
 | m es bs c=>rfl
 | it _ _ _ _=>exact h.elim
 | it0=>exact h.elim
 | lp _ _=>exact h.elim
theorem QC {n:K4} {o:Cj} {ob:Ob} (h:In n o=some ob):∃ obr,o=some obr∧(BL ob=none->∀ q,BL obr=some q->n.toN≤q.toN) ∧ ∀ {φ:B0} {w:World} {b s tot:Nat},Fu ρ φ w obr b s tot->Fu ρ φ w ob b s tot:=by
 cases o with
 | none=>cases h
 | some obr =>
  refine ⟨obr,rfl,?_⟩
  cases obr with
  | c cs sup prev =>
   have h:some (Ob.c cs sup (UJ n prev))=some ob:=h
   cases h
   refine ⟨fun hp q hq=>?_,fun k=>k⟩
   have hq:prev=some q:=hq
   subst hq
   have hp:@Bool.rec (fun _=>Option K4) none (some q) (Mn q n)=none:=hp
   cases hl:Mn q n with
   | true=>rw [hl] at hp; cases hp
   | false =>
    rcases Nat.lt_or_ge q.toN n.toN with h | h
    ·rw [FD.2 h] at hl; cases hl
    ·exact h
  | m _ _ _=>cases h; exact ⟨fun _ q hq=>(by cases hq),fun k=>k⟩
  | it _ _ _ _=>cases h; exact ⟨fun _ q hq=>(by cases hq),fun k=>k⟩
  | it0=>cases h; exact ⟨fun _ q hq=>(by cases hq),fun k=>k⟩
  | lp _ _=>cases h; exact ⟨fun _ q hq=>(by cases hq),fun k=>k⟩
theorem JR {n:K4} {φ1 φ2:B0} (hφ:∀ p x,p.toN<n.toN->φ1 p=some x->φ2 p=some x) {w:World} {o:Ob} {b s tot:Nat} (ho:IS n o) (k:Fu ρ φ1 w o b s tot):Fu ρ φ2 w o b s tot:=by
 cases o with
 | c cs sup prev =>
  obtain ⟨c,e,fr,h1,h2,h3,h4,h5⟩:=k
  refine ⟨c,e,fr,h1,h2,h3,h4,fun i v hv=>?_⟩
  obtain ⟨x,k1,k2,k3⟩:=h5 i v hv
  refine ⟨x,k1,?_,k3⟩
  cases cs with
  | l xs=>exact El hφ (NC ho.1 v (List.mem_of_getElem? hv)) k2
  | b m c =>
   by_cases hi:i<m
   ·rw [Cs.b_pos hi] at hv; cases hv; exact El hφ rfl k2
   ·rw [Cs.b_neg hi] at hv; cases hv
 | m es bs clk =>
  obtain ⟨ents,h1,h2,h3⟩:=k
  refine ⟨ents,h1,?_,h3⟩
  have ho':∀ e∈es,EI n e.1=true∧EI n e.2=true:=ho
  clear h1 h3 ho
  generalize ents.toList=l at h2
  induction es generalizing l with
  | nil=>exact h2
  | cons e es ih =>
   obtain ⟨y,ys,rfl,k1,k2,k3⟩:=h2
   obtain ⟨o1,o2⟩:=ho' e (List.mem_cons_self ..)
   exact ⟨y,ys,rfl,El hφ o1 k1,El hφ o2 k2,ih (fun e he=>ho' e (List.mem_cons_of_mem _ he)) _ k3⟩
 | it _ _ _ _=>exact ho.elim
 | it0=>exact ho.elim
 | lp _ _=>exact ho.elim
theorem J6 {p:Option K4} {κ:R} (h:(JQ p κ).good):p=none∧JQ p κ=κ:=by
 cases p with
 | none=>exact ⟨rfl,rfl⟩
 | some q=>exact h.elim
theorem IB:∀ {a b:List Nat} {κ:R},(Kg a b κ).good->a=b∧Kg a b κ=κ
 | [],[],κ,_=>⟨rfl,rfl⟩
 | [],_::_,κ,h=>h.elim
 | _::_,[],κ,h=>h.elim
 | x::a,y::b,κ,h=>by
  have h:R.good (br (Nat.beq x y) (Kg a b κ) (.fail "")):=h
  obtain ⟨h1,e1⟩:=Ak h
  rw [e1] at h
  obtain ⟨h2,e2⟩:=IB h
  exact ⟨by rw [Nat.eq_of_beq_eq_true h1,h2],Eq.trans e1 e2⟩
theorem IA {n:K4}:∀ {a b:List (V×V)} {κ:R},(Jr n a b κ).good->a=b∧(∀ e∈a,EI n e.1=true∧EI n e.2=true)∧Jr n a b κ=κ
 | [],[],κ,_=>⟨rfl,fun e he=>by simp at he,rfl⟩
 | [],_::_,κ,h=>h.elim
 | _::_,[],κ,h=>h.elim
 | (x,y)::a,(x',y')::b,κ,h=>by
  have h:R.good (br (EI n x) (br (EI n y) (Aw x x' (Aw y y' (Jr n a b κ))) (.fail "")) (.fail "")):=h
  obtain ⟨h1,e1⟩:=Ak h
  rw [e1] at h
  obtain ⟨h2,e2⟩:=Ak h
  rw [e2] at h
  obtain ⟨h3,e3⟩:=DC h
  rw [e3] at h
  obtain ⟨h4,e4⟩:=DC h
  rw [e4] at h
  obtain ⟨h5,h6,e5⟩:=IA h
  refine ⟨by rw [h3,h4,h5],fun e he=>?_,Eq.trans e1 (e2.trans (e3.trans (e4.trans e5)))⟩
  rcases List.mem_cons.1 he with e' | he
  ·subst e'; exact ⟨h1,h2⟩
  ·exact h6 e he
theorem NS {n:K4} {a b:Ob} {κ:R} (h:(Pe n a b κ).good):a=b∧IS n a∧Pe n a b κ=κ:=by
 cases a with
 | c cs sup prev =>
  have h0:R.good (br sup (.fail "") (JQ prev (@Ob.rec (fun _=>R) (fun cs' sup' prev'=>br sup' (.fail "") (JQ prev' (OF n cs cs' κ))) (BR "") (Fe "") (.fail "") (AN "") b))):=h
  obtain ⟨h1,e1⟩:=Fa h0
  rw [e1] at h0
  obtain ⟨h2,e2⟩:=J6 h0
  rw [e2] at h0
  cases b with
  | c cs' sup' prev' =>
   have h0:R.good (br sup' (.fail "") (JQ prev' (OF n cs cs' κ))):=h0
   obtain ⟨h3,e3⟩:=Fa h0
   rw [e3] at h0
   obtain ⟨h4,e4⟩:=J6 h0
   rw [e4] at h0
   subst h1 h2 h3 h4
   cases cs with
   | l xs=>cases cs' with
    | l ys =>
     have h0:R.good (br (Jo n xs) (Aw (.tup xs) (.tup ys) κ) (.fail "")):=h0
     obtain ⟨h5,e5⟩:=Ak h0
     rw [e5] at h0
     obtain ⟨h6,e6⟩:=DC h0
     cases h6
     exact ⟨rfl,⟨h5,rfl,rfl⟩,Eq.trans e5 e6⟩
    | b m c=>exact h0.elim
   | b m c=>cases cs' with
    | l ys=>exact h0.elim
    | b m' c' =>
     have h0:R.good (br (Nat.beq m m') (br (Nat.beq c c') κ (.fail "")) (.fail "")):=h0
     obtain ⟨h5,e5⟩:=Ak h0
     rw [e5] at h0
     obtain ⟨h6,e6⟩:=Ak h0
     exact ⟨by rw [Nat.eq_of_beq_eq_true h5,Nat.eq_of_beq_eq_true h6],⟨rfl,rfl⟩,Eq.trans e5 e6⟩
  | m _ _ _=>exact h0.elim
  | it _ _ _ _=>exact h0.elim
  | it0=>exact h0.elim
  | lp _ _=>exact h0.elim
 | m es bs c=>cases b with
  | m es' bs' c' =>
   have h0:R.good (br (Nat.beq c c') (Kg bs bs' (Jr n es es' κ)) (.fail "")):=h
   obtain ⟨h1,e1⟩:=Ak h0
   rw [e1] at h0
   obtain ⟨h2,e2⟩:=IB h0
   rw [e2] at h0
   obtain ⟨h3,h4,e3⟩:=IA h0
   refine ⟨by rw [Nat.eq_of_beq_eq_true h1,h2,h3],h4,Eq.trans e1 (e2.trans e3)⟩
  | c _ _ _=>exact h.elim
  | it _ _ _ _=>exact h.elim
  | it0=>exact h.elim
  | lp _ _=>exact h.elim
 | it _ _ _ _=>exact h.elim
 | it0=>exact h.elim
 | lp _ _=>exact h.elim
theorem Iu {n:K4} {a b:Cj} {κ:R} (h:(G6 n a b κ).good):a=b∧(∀ o,a=some o->IS n o)∧G6 n a b κ=κ:=by
 cases a with
 | none=>cases b with
  | none=>exact ⟨rfl,fun o h=>(by cases h),rfl⟩
  | some y=>exact h.elim
 | some x=>cases b with
  | none=>exact h.elim
  | some y =>
   obtain ⟨h1,h2,e⟩:=NS (show R.good (Pe n x y κ) from h)
   subst h1
   exact ⟨rfl,fun o h=>(by cases h; exact h2),e⟩
theorem Hs {n:K4} {h1 h':Heap}:∀ {acc:List K4} {κ:R},(Fs n h1 h' acc κ).good->(∀ p∈acc,AE p h1=AE p h' ∧ ∀ o,AE p h1=some o->IS n o)∧Fs n h1 h' acc κ=κ
 | [],κ,_=>⟨fun p hp=>by simp at hp,rfl⟩
 | q::acc,κ,h=>by
  have e0:Fs n h1 h' (q::acc) κ=G6 n (AE q h1) (AE q h') (Fs n h1 h' acc κ):=by
   show (Br q h1 fun a=>Br q h' fun b=>G6 n a b (Fs n h1 h' acc κ))=_
   rw [BC,BC]
  rw [e0] at h
  obtain ⟨a1,a2,e1⟩:=Iu h
  rw [e1] at h
  obtain ⟨a3,e2⟩:=Hs h
  refine ⟨fun p hp=>?_,e0.trans (e1.trans e2)⟩
  rcases List.mem_cons.1 hp with e | hp
  ·subst e; exact ⟨a1,a2⟩
  ·exact a3 p hp
def S3 (n:K4) (v1:V) (h1:Heap) (v':V) (h':Heap):Prop :=
 (EI n v1=true∧v1=v')∨(EI n v1=false ∧ ∃ p p' off len cap ex esz,v1 = .sl p off len cap ex esz∧v' = .sl p' off len cap ex esz∧n.toN≤p.toN∧n.toN≤p'.toN∧In n (AE p h1)=In n (AE p' h') ∧ ∀ o,In n (AE p h1)=some o->IS n o)
theorem Mg {n:K4} {v1 v':V} {h1 h':Heap} {κ:R} (h:(Hc n v1 h1 v' h' κ).good):S3 n v1 h1 v' h'∧Hc n v1 h1 v' h' κ=κ:=by
 unfold Hc at h ⊢
 cases ho:EI n v1 with
 | true =>
  rw [ho] at h
  obtain ⟨a,e⟩:=DC (show R.good (Aw v1 v' κ) from h)
  exact ⟨.inl ⟨ho,a⟩,e⟩
 | false =>
  rw [ho] at h
  have h:R.good (CM v1 (.fail "") fun p off len cap ex esz=>CM v' (.fail "") fun p' off' len' cap' ex' esz'=>br (Mn p n) (.fail "") (br (Mn p' n) (.fail "") (Aw (.sl p off len cap ex esz) (.sl p off' len' cap' ex' esz') (Br p h1 fun a=>Br p' h' fun b=>G6 n (In n a) (In n b) κ)))):=h
  show S3 n v1 h1 v' h'∧(CM v1 (.fail "") fun p off len cap ex esz=>CM v' (.fail "") fun p' off' len' cap' ex' esz'=>br (Mn p n) (.fail "") (br (Mn p' n) (.fail "") (Aw (.sl p off len cap ex esz) (.sl p off' len' cap' ex' esz') (Br p h1 fun a=>Br p' h' fun b=>G6 n (In n a) (In n b) κ))))=κ
  rcases Cx h with ⟨_,e1⟩ | ⟨p,off,len,cap,ex,esz,hv,e1⟩
  ·rw [e1] at h; exact h.elim
  rw [e1] at h ⊢
  rcases Cx h with ⟨_,e2⟩ | ⟨p',off',len',cap',ex',esz',hv',e2⟩
  ·rw [e2] at h; exact h.elim
  rw [e2] at h ⊢
  obtain ⟨a1,e3⟩:=Fa h
  rw [e3] at h ⊢
  obtain ⟨a2,e4⟩:=Fa h
  rw [e4] at h ⊢
  obtain ⟨a3,e5⟩:=DC h
  rw [e5] at h ⊢
  rw [BC,BC] at h ⊢
  obtain ⟨a4,a5,e6⟩:=Iu h
  rw [e6]
  cases a3
  have n1:n.toN≤p.toN:=by
   rcases Nat.lt_or_ge p.toN n.toN with h | h
   ·rw [FD.2 h] at a1; cases a1
   ·exact h
  have n2:n.toN≤p'.toN:=by
   rcases Nat.lt_or_ge p'.toN n.toN with h | h
   ·rw [FD.2 h] at a2; cases a2
   ·exact h
  exact ⟨.inr ⟨ho,p,p',off,len,cap,ex,esz,hv,hv',n1,n2,a4,a5⟩,rfl⟩
theorem SN (a b:K4) (κ:K4->R):∃ m:K4,T6 a b κ=κ m∧a.toN≤m.toN∧b.toN≤m.toN:=by
 unfold T6
 cases h:Nat.ble a.toN b.toN with
 | true=>exact ⟨b,rfl,Al.1 h,Nat.le_refl _⟩
 | false =>
  have:¬ a.toN≤b.toN:=fun h'=>by rw [Al.2 h'] at h; cases h
  exact ⟨a,rfl,Nat.le_refl _,by omega⟩
def Tu (n:K4) (v1:V) (h1:Heap) (acc:List K4) (m:K4):R->Prop
 | .rv v h n'=>S3 n v1 h1 v h∧(∀ p∈acc,AE p h1=AE p h ∧ ∀ o,AE p h1=some o->IS n o)∧n'.toN≤m.toN
 | _=>False
theorem Ik {n:K4} {v1:V} {h1:Heap} {acc:List K4}:∀ {r:R} {mx:K4} {κ:K4->R},(RZ n v1 h1 acc r mx κ).good->∃ m:K4,mx.toN≤m.toN∧r.sat (Tu n v1 h1 acc m)∧RZ n v1 h1 acc r mx κ=κ m
 | .ok _ _ _ _,mx,κ,h=>h.elim
 | .fail _,mx,κ,h=>h.elim
 | .rv v h0 n',mx,κ,h=>by
  have h:R.good (Hc n v1 h1 v h0 (Fs n h1 h0 acc (T6 n' mx κ))):=h
  obtain ⟨a1,e1⟩:=Mg h
  rw [e1] at h
  obtain ⟨a2,e2⟩:=Hs h
  rw [e2] at h
  obtain ⟨m,e3,l1,l2⟩:=SN n' mx κ
  exact ⟨m,l2,⟨a1,a2,l1⟩,Eq.trans e1 (e2.trans e3)⟩
 | .both a b,mx,κ,h=>by
  have h:R.good (RZ n v1 h1 acc a mx fun mx=>RZ n v1 h1 acc b mx κ):=h
  obtain ⟨m1,l1,s1,e1⟩:=Ik h
  rw [e1] at h
  obtain ⟨m2,l2,s2,e2⟩:=Ik h
  refine ⟨m2,Nat.le_trans l1 l2,⟨R.sat_mono (fun r hr=>?_) s1,s2⟩,Eq.trans e1 e2⟩
  cases r with
  | rv v h0 n'=>exact ⟨hr.1,hr.2.1,Nat.le_trans hr.2.2 l2⟩
  | ok _ _ _ _=>exact hr
  | fail _=>exact hr
  | both _ _=>exact hr
theorem Iz:∀ {r:R} {κ:V->Heap->R},(Oc r κ).good->∃ v h,Oc r κ=κ v h
 | .ok _ _ _ _,κ,h=>h.elim
 | .fail _,κ,h=>h.elim
 | .rv v h0 n',κ,h=>⟨v,h0,rfl⟩
 | .both a b,κ,h=>Iz (r:=a) h
theorem R8 (o:Ob) (h:Heap) (κ:Heap->R):PD o h κ=κ (FO (BL o) h):=by
 cases o with
 | c cs sup prev =>
  cases prev with
  | none=>rfl
  | some q=>show BP q h none κ=_; rw [BW,Bz]; rfl
 | m _ _ _=>rfl
 | it _ _ _ _=>rfl
 | it0=>rfl
 | lp _ _=>rfl
structure PutOK (h h1:Heap) (acc:List K4) (hf:Heap):Prop where
 put:∀ q o,AE q hf=some o->(q∈acc∧AE q h1=some o)∨(q ∉ acc∧AE q h=some o ∧ ∀ p∈acc,∀ op,AE p h=some op->BL op≠some q)
theorem JJ {h h1:Heap}:∀ {acc:List K4} {κ:Heap->R},(ME h h1 acc κ).good->∃ hf,PutOK h h1 acc hf∧ME h h1 acc κ=κ hf
 | [],κ,_=>⟨h,⟨fun q o hq=>.inr ⟨by simp,hq,fun p hp=>by simp at hp⟩⟩,rfl⟩
 | p::acc,κ,hg=>by
  have hg:R.good (ME h h1 acc fun hf=>Br p h fun o=>@Option.rec Ob (fun _=>R) (.fail "") (fun o=>PD o hf fun hf=>Br p h1 fun o1=>BP p hf o1 κ) o):=hg
  obtain ⟨hf,ok,e1⟩:=JJ hg
  rw [e1] at hg
  have e0:ME h h1 (p::acc) κ=_:=e1
  rw [e0]
  rw [BC] at hg ⊢
  cases hp:AE p h with
  | none=>rw [hp] at hg; exact hg.elim
  | some op =>
   show ∃ hf',PutOK h h1 (p::acc) hf'∧(PD op hf fun hf=>Br p h1 fun o1=>BP p hf o1 κ)=κ hf'
   rw [R8,BC,BW,Bz]
   refine ⟨_,⟨fun q o hq=>?_⟩,rfl⟩
   rcases Bx hq with ⟨rfl,e⟩ | ⟨hne,hq⟩
   ·exact .inl ⟨List.mem_cons_self ..,e⟩
   ·obtain ⟨k1,hq⟩:=CU hq
    rcases ok.put q o hq with ⟨a,b⟩ | ⟨a,b,c⟩
    ·exact .inl ⟨List.mem_cons_of_mem _ a,b⟩
    ·refine .inr ⟨fun hm=>?_,b,fun p' hp' op' hop'=>?_⟩
     ·rcases List.mem_cons.1 hm with e | hm
      ·exact hne e.symm
      ·exact a hm
     ·rcases List.mem_cons.1 hp' with e | hp'
      ·subst e; rw [hp] at hop'; cases hop'; exact k1
      ·exact c p' hp' op' hop'
section
variable {h hs h1 h' hf:Heap} {acc:List K4} {n n' m:K4} {v1 v:V} {φ φ':B0} {w w':World}
theorem Fg (sub:Sub h hs acc) (put:PutOK h h1 acc hf) (g:Gam ρ B h n φ w) {q:K4} {o:Ob} (hq:q ∉ acc) (ho:AE q hf=some o) {b s tot:Nat} (hφ:φ q=some (b,s,tot)) {p:K4} (hp:p∈acc) {s' tot':Nat} (hφp:φ p=some (b,s',tot')):False:=by
 obtain ⟨op',hop⟩:=sub.has p hp
 obtain ⟨op,k1,_,k2,_⟩:=sub.sub p op' hop
 rcases put.put q o ho with ⟨a,_⟩ | ⟨_,a,c⟩
 ·exact hq a
 ·have hne:p≠q:=fun e=>hq (e ▸ hp)
  rcases g.sep p q op o b s' tot' s tot hne k1 a hφp hφ with e | e
  ·exact c p hp op k1 e
  ·have:=g.sup q p o op b s tot s' tot' a e k1 hφ hφp
   cases op with
   | c cs sup prev =>
    have this:sup=true:=this
    subst this
    cases k2
   | m _ _ _=>cases this
   | it _ _ _ _=>cases this
   | it0=>cases this
   | lp _ _=>cases this
theorem QS (sub:Sub h hs acc) (put:PutOK h h1 acc hf) (g:Gam ρ B h n φ w) (f1:Fr hs h' φ φ' n n' w w') {q:K4} {o:Ob} (hq:q ∉ acc) (ho:AE q hf=some o) {b s tot:Nat} (hφ:φ q=some (b,s,tot)):w'.heap[b]? = w.heap[b]?:=by
 refine f1.old b (g.blk q b s tot hφ).2 fun p s' tot' hp=>?_
 cases hx:AE p hs with
 | none=>rfl
 | some o'=>exact (Fg sub put g hq ho hφ (sub.mem hx) hp).elim
theorem S7 (sub:Sub h hs acc) (put:PutOK h h1 acc hf) (g:Gam ρ B h n φ w) (f1:Fr hs h' φ φ' n n' w w') (g1:Gam ρ B h' n' φ' w')
  (hacc:∀ p∈acc,AE p h1=AE p h' ∧ ∀ o,AE p h1=some o->IS n o) (hm:n.toN≤m.toN):Gam ρ B hf m φ w'∧Fr h hf φ φ n m w w':=by
 have back:∀ p x,p.toN<n.toN->φ' p=some x->φ p=some x:=fun p x hp hx=>by
  rcases f1.new p x hx with h | ⟨h,_⟩
  ·exact h
  ·omega
 have inacc:∀ q o,q∈acc->AE q hf=some o->AE q h'=some o∧IS n o:=fun q o hq ho=>by
  rcases put.put q o ho with ⟨_,a⟩ | ⟨a,_⟩
  ·exact ⟨(hacc q hq).1 ▸ a,(hacc q hq).2 o a⟩
  ·exact absurd hq a
 have outacc:∀ q o,q ∉ acc->AE q hf=some o->AE q h=some o:=fun q o hq ho=>by
  rcases put.put q o ho with ⟨a,_⟩ | ⟨_,a,_⟩
  ·exact absurd a hq
  ·exact a
 refine ⟨⟨Nat.le_trans g.base f1.size,fun p x hx=>Nat.lt_of_lt_of_le (g.dom p x hx) hm,fun p b s tot hx=>⟨(g.blk p b s tot hx).1,Nat.lt_of_lt_of_le (g.blk p b s tot hx).2 f1.size⟩,fun q o b s tot ho hx=>?_,fun p q o o' b s tot s' tot' hne ho ho' hx hy=>?_,fun p q o o' b s tot s' tot' ho hpr ho' hx hy=>?_,g1.glob⟩,
  ⟨B0.le_refl φ,fun _ _ h=>.inl h,hm,f1.os,f1.tape,f1.out,f1.size,fun b hb hn=>f1.old b hb fun p s tot hp=>?_,fun _ _ _ _ h=>.inl h,fun p hp hn=>?_⟩⟩
 ·by_cases hq:q∈acc
  ·obtain ⟨a,c⟩:=inacc q o hq ho
   exact JR back c (g1.obj q o b s tot a (f1.ext _ _ hx))
  ·exact C1 (QS sub put g f1 hq ho hx) (g.obj q o b s tot (outacc q o hq ho) hx)
 ·by_cases hp:p∈acc
  ·by_cases hq:q∈acc
   ·exact g1.sep p q o o' b s tot s' tot' hne (inacc p o hp ho).1 (inacc q o' hq ho').1 (f1.ext _ _ hx) (f1.ext _ _ hy)
   ·exact (Fg sub put g hq ho' hy hp hx).elim
  ·by_cases hq:q∈acc
   ·exact (Fg sub put g hp ho hx hq hy).elim
   ·exact g.sep p q o o' b s tot s' tot' hne (outacc p o hp ho) (outacc q o' hq ho') hx hy
 ·by_cases hp:p∈acc
  ·rw [(inacc p o hp ho).2.prev] at hpr; cases hpr
  ·by_cases hq:q∈acc
   ·exact (Fg sub put g hp ho hx hq hy).elim
   ·exact g.sup p q o o' b s tot s' tot' (outacc p o hp ho) hpr (outacc q o' hq ho') hx hy
 ·cases hx:AE p hs with
  | none=>rfl
  | some o'=>have:=hn p s tot hp; obtain ⟨o0,e0⟩:=sub.in_h hx; rw [e0] at this; cases this
 ·cases hx:AE p hf with
  | none=>rfl
  | some o =>
   exfalso
   by_cases hq:p∈acc
   ·obtain ⟨o',ho'⟩:=sub.has p hq
    obtain ⟨o0,e0⟩:=sub.in_h ho'
    rw [e0] at hn; cases hn
   ·rw [outacc p o hq hx] at hn; cases hn
theorem U8 (sub:Sub h hs acc) (put:PutOK h h1 acc hf) (g:Gam ρ B h n φ w) (f1:Fr hs h' φ φ' n n' w w') (g1:Gam ρ B h' n' φ' w') {x:Value} (r1:AF ρ φ' v x)
  (way:Tu n v1 h1 acc m (.rv v h' n')) (hm:n.toN≤m.toN) {vf:V} {hff:Heap} {nf:K4} (hres:U2 n v1 h1 hf m = .rv vf hff nf) :
  ∃ φ'',Fr h hff φ φ'' n nf w w'∧Gam ρ B hff nf φ'' w'∧AF ρ φ'' vf x:=by
 obtain ⟨res,hacc,hn'⟩:=way
 obtain ⟨gb,fb⟩:=S7 sub put g f1 g1 hacc hm
 have back:∀ p x,p.toN<n.toN->φ' p=some x->φ p=some x:=fun p x hp hx=>by
  rcases f1.new p x hx with h | ⟨h,_⟩
  ·exact h
  ·omega
 unfold U2 at hres
 rcases res with ⟨ho,e⟩ | ⟨ho,p,p',off,len,cap,ex,esz,e1,e2,hp,hp',heq,hold⟩
 ·subst e
  rw [ho] at hres
  have hres:R.rv v1 hf m=R.rv vf hff nf:=hres
  cases hres
  exact ⟨φ,fb,gb,El back ho r1⟩
 ·rw [ho] at hres
  subst e1 e2
  have hres:(Br p h1 fun o=>@Option.rec Ob (fun _=>R) (.fail "") (fun ob=>BP m hf (some ob) fun hf=>m.nx fun m'=>.rv (.sl m off len cap ex esz) hf m') (In n o)) = .rv vf hff nf:=hres
  rw [BC] at hres
  cases hob:In n (AE p h1) with
  | none=>rw [hob] at hres; cases hres
  | some ob =>
   rw [hob] at hres
   have hres:(BP m hf (some ob) fun hf=>m.nx fun m'=>.rv (.sl m off len cap ex esz) hf m') = .rv vf hff nf:=hres
   rw [BW,Bz] at hres
   rcases K4.nx_eq m (fun m'=>.rv (.sl m off len cap ex esz) (AZ m hf (some ob)) m') with ⟨why,e⟩ | ⟨m',hm',e⟩
   ·rw [e] at hres; cases hres
   rw [e] at hres
   cases hres
   have hOld:=hold ob hob
   obtain ⟨obr,hob',hpv,hcl⟩:=QC (heq ▸ hob)
   obtain ⟨b',s',tot',o,cap',hφ',gx,c1,c2,c3,c4⟩:=CB r1
   have hmn:φ m=none:=by
    cases hx:φ m with
    | none=>rfl
    | some x=>have:=g.dom m x hx; omega
   have hoblk:=g1.blk p' b' s' tot' hφ'
   -- no object that was there lies in that block
   have apart:∀ q oq,AE q hf=some oq->∀ s tot,φ q=some (b',s,tot)->False:=fun q oq hq s tot hx=>by
    have hqn:=g.dom q _ hx
    have hne:p'≠q:=fun e=>by rw [e] at hp'; omega
    by_cases hqa:q∈acc
    ·rcases put.put q oq hq with ⟨_,a⟩ | ⟨a,_⟩
     ·have a':AE q h'=some oq:=(hacc q hqa).1 ▸ a
      rcases g1.sep p' q obr oq b' s' tot' s tot hne hob' a' hφ' (f1.ext _ _ hx) with e | e
      ·have:=hpv hOld.prev q e; omega
      ·rw [((hacc q hqa).2 oq a).prev] at e; cases e
     ·exact a hqa
    ·rcases f1.fresh p' b' s' tot' hφ' with h | h | ⟨r,sr,tr,hr,hne'⟩
     ·have:=g.dom p' _ h; omega
     ·have:=(g.blk q b' s tot hx).2; omega
     ·cases hx':AE r hs with
      | none=>exact hne' hx'
      | some o'=>exact Fg sub put g hqa hq hx (sub.mem hx') hr
   refine ⟨DT φ m (b',s',tot'),⟨B0.le_trans fb.ext (CC hmn),fun q y hy=>?_,by omega,fb.os,fb.tape,fb.out,fb.size,fb.old,fun q b s t hx=>?_,fun q hq hn=>?_⟩,⟨gb.base,fun q y hy=>?_,fun q b s t hy=>?_,fun q oq b s t hq hy=>?_,fun q r oq or b s t s2 t2 hne hq hr hx hy=>?_,fun q r oq or b s t s2 t2 hq hpr hr hx hy=>?_,gb.glob⟩,?_⟩
   ·rcases AO hy with ⟨rfl,_⟩ | ⟨_,hy⟩
    ·exact .inr ⟨hm,by omega⟩
    ·exact .inl hy
   ·rcases AO hx with ⟨rfl,e⟩ | ⟨_,hx⟩
    ·cases e
     rcases f1.fresh p' b' s' tot' hφ' with h | h | ⟨r,sr,tr,hr,hne'⟩
     ·have:=g.dom p' _ h; omega
     ·exact .inr (.inl h)
     ·refine .inr (.inr ⟨r,sr,tr,hr,?_⟩)
      cases hx':AE r hs with
      | none=>exact absurd hx' hne'
      | some o'=>obtain ⟨o0,e0⟩:=sub.in_h hx'; rw [e0]; simp
    ·exact .inl hx
   ·have hne:m≠q:=fun e=>hq (e ▸ hmn)
    rw [Aq _ _ hne]
    exact fb.dm q hq hn
   ·rcases AO hy with ⟨rfl,_⟩ | ⟨_,hy⟩
    ·omega
    ·have:=gb.dom q y hy; omega
   ·rcases AO hy with ⟨rfl,e⟩ | ⟨_,hy⟩
    ·cases e; exact hoblk
    ·exact gb.blk q b s t hy
   ·rcases AO hy with ⟨rfl,e⟩ | ⟨hne,hy⟩
    ·cases e
     rw [AB] at hq; cases hq
     refine JR (φ1:=φ') (fun q y hq hy=>?_) hOld (hcl (g1.obj p' obr _ _ _ hob' hφ'))
     rw [Gm fun e=>by subst e; omega]
     exact back q y hq hy
    ·rw [Aq _ _ hne] at hq
     exact DH (CC hmn) (gb.obj q oq b s t hq hy)
   ·rcases AO hx with ⟨rfl,e⟩ | ⟨hq',hx⟩
    ·cases e
     rcases AO hy with ⟨e,_⟩ | ⟨hr',hy⟩
     ·exact absurd e hne
     ·rw [Aq _ _ hr'] at hr
      exact (apart r or hr s2 t2 hy).elim
    ·rw [Aq _ _ hq'] at hq
     rcases AO hy with ⟨rfl,e⟩ | ⟨hr',hy⟩
     ·cases e
      exact (apart q oq hq s t hx).elim
     ·rw [Aq _ _ hr'] at hr
      exact gb.sep q r oq or b s t s2 t2 hne hq hr hx hy
   ·rcases AO hx with ⟨rfl,e⟩ | ⟨hq',hx⟩
    ·rw [AB] at hq; cases hq
     rw [hOld.prev] at hpr; cases hpr
    ·rw [Aq _ _ hq'] at hq
     rcases AO hy with ⟨rfl,e⟩ | ⟨hr',hy⟩
     ·cases e
      exact (apart q oq hq s t hx).elim
     ·rw [Aq _ _ hr'] at hr
      exact gb.sup q r oq or b s t s2 t2 hq hpr hr hx hy
   ·rw [gx]
    simp only [AF]
    exact ⟨b',s',tot',o,cap',BJ _ _ _,rfl,c1,c2,c3,c4⟩
end
theorem Uf {f:FuncId} {run:Heap->R} {k:Nat} {args:List V} {h:Heap} {n:K4} {v:V} {h1:Heap} {n1:K4} (hr:Ww k run args h n = .rv v h1 n1) {φ:B0} {w:World} {xs:Array Value} (g:Gam ρ B h n φ w) (hxs:Bs ρ φ args xs.toList)
  (H:∀ (hs:Heap) (Φ:R->Prop),(run hs).sat Φ->Gam ρ B hs n φ w->Jw P f xs w fun x w'=>∃ v h1 n1 φ',Φ (.rv v h1 n1)∧Fr hs h1 φ φ' n n1 w w'∧Gam ρ B h1 n1 φ' w'∧AF ρ φ' v x) :
  Jw P f xs w fun x w'=>∃ φ',Fr h h1 φ φ' n n1 w w'∧Gam ρ B h1 n1 φ' w'∧AF ρ φ' v x:=by
 unfold Ww at hr
 obtain ⟨hs,acc,sub,e1⟩:=Fc k (todo:=TL args []) (κ:=fun hs acc=>TN n h acc (run hs)) (Sub.nil (h:=h))
 rw [e1] at hr
 unfold TN at hr
 obtain ⟨v1,hh1,e2⟩:=Iz (by rw [hr]; trivial)
 rw [e2] at hr
 obtain ⟨m,hm,sat,e3⟩:=Ik (by rw [hr]; trivial)
 rw [e3] at hr
 obtain ⟨hf,put,e4⟩:=JJ (by rw [hr]; trivial)
 rw [e4] at hr
 have gs:Gam ρ B hs n φ w:=by
  refine ⟨g.base,g.dom,g.blk,fun p o b s tot hp hx=>?_,fun p q o o' b s tot s' tot' hne hp hq hx hy=>?_,fun p q o o' b s tot s' tot' hp hpr hq hx hy=>?_,g.glob⟩
  ·obtain ⟨o0,e0,rfl,_⟩:=sub.sub p o hp
   exact SC (g.obj p o0 b s tot e0 hx)
  ·exfalso
   obtain ⟨o0,e0,_,g0,_⟩:=sub.sub p o hp
   obtain ⟨o1,e1,_,g1,_⟩:=sub.sub q o' hq
   have no:∀ (ob:Ob),H3 ob=true->Iq ob=true->False:=fun ob h1 h2=>by
    cases ob with
    | c cs sup prev =>
     cases sup with
     | true=>cases h1
     | false=>cases h2
    | _=>cases h2
   rcases g.sep p q o0 o1 b s tot s' tot' hne e0 e1 hx hy with h | h
   ·exact no o1 g1 (g.sup p q o0 o1 b s tot s' tot' e0 h e1 hx hy)
   ·exact no o0 g0 (g.sup q p o1 o0 b s' tot' s tot e1 h e0 hy hx)
  ·obtain ⟨o0,e0,rfl,_⟩:=sub.sub p o hp
   rw [Q3] at hpr; cases hpr
 intro o a K Q hK
 refine H hs _ sat gs o a K Q fun x w' ⟨v',h',n',φ',way,f1,g1,r1⟩=>hK x w' ?_
 exact U8 sub put g f1 g1 r1 way hm hr
end
end Go.Ev

namespace Go.Ev
set_option linter.unusedVariables false
open Go.RowKit
abbrev rdK (pb px:K2) (al bl:List AOp) (cf:He) (b x:V) (h:Heap) (n:K4):R :=
 D4 [] cf al [(px,x),(pb,b)] EE h n fun env t h n=>D4 [] cf bl env t h n fun _ _ h n=>.rv (.bool true) h n
abbrev Rd:=He->V->V->Heap->K4->R
def Mw (l:List Oper):Bool:=l.all fun o=>match o.op with | .defer _=>false | _=>true
theorem IE {l:List Oper} (h:Mw l=true):∀ o∈l,∀ c,o.op ≠ .defer c:=fun o ho c e=>by
 have:=List.all_eq_true.1 h o ho
 rw [e] at this; cases this
def OS:Code->Option (Array Oper)
 | .region _ ops false=>some ops
 | _=>none
def Rx:Code->Option (Array Oper)
 | .block _ c=>OS c
 | _=>none
def RN (P:Program) (A:ApC):Option Rd :=
 match OS A.asg,Rx A.bod,K2.ofN A.par,K2.ofN A.box with
 | some oa,some ob,some px,some pb=>match Gx P A.ntm oa oa.toList,Gx P A.ntm ob ob.toList with
  | some al,some bl=>if FM [] al [px,pb]&&(FM [] bl (CA al [px,pb])&&(Mw oa.toList&&(Mw ob.toList&&(Nat.blt A.par A.ntm&&(Nat.blt A.box A.ntm && !(A.par == A.box)))))) then some (rdK pb px al bl) else none
  | _,_=>none
 | _,_,_,_=>none
theorem Ke {c:Code} {ops:Array Oper} (h:OS c=some ops):∃ i,c = .region i ops false:=by
 unfold OS at h
 split at h
 ·cases h; exact ⟨_,rfl⟩
 ·cases h
theorem NQ {c:Code} {ops:Array Oper} (h:Rx c=some ops):∃ i j,c = .block i (.region j ops false):=by
 unfold Rx at h
 split at h
 ·obtain ⟨j,rfl⟩:=Ke h; exact ⟨_,j,rfl⟩
 ·cases h
def Kq (P:Program) (f:FuncId):Option ApC :=
 match P.funcs[f]? with
 | some fn=>match fn.body with
  | some (.seq (.region _ r0 false) (.seq (.seq (.region _ r1 false) (.block _ (.rangeFunc (.tmp s6) ps asg bod))) (.seq (.region _ r4 false) .ret))) =>
   match r0.toList,r1.toList,r4.toList,ps.toList,fn.results.toList with
   | [o1,o2],[o3],[o4,o5],[par],[.tmp s4]=>match o1.op,o2.op,o3.op,o4.op,o5.op with
    | .box _ (.tmp s0),.assign (.const c2),.move (.tmp s1),.load tL (.tmp s2),.assign (.tmp s12) =>
     if (fn.name == "runtime.NumGoroutine")=false∧fn.ntmps=13∧s6=6∧s4=4∧s0=0∧s1=1∧s2=2∧s12=12∧o1.dst=some 2∧o2.dst=some 4∧o3.dst=some 6∧o4.dst=some 12∧o5.dst=some 4 ∧
      o1.guard=none∧o2.guard=none∧o3.guard=none∧o4.guard=none∧o5.guard=none∧Jc P tL=some false then some ⟨asg,bod,par,2,13⟩ else none
    | _,_,_,_,_=>none
   | _,_,_,_,_=>none
  | _=>none
 | none=>none
def HX (l:List V) (κ:V->List V->R):R:=@List.rec V (fun _=>R) (.fail "") (fun x xs _=>κ x xs) l
def Pl (l:List V) (κ:R):R:=@List.rec V (fun _=>R) κ (BR "") l
def NY (v:V) (κ:R):R :=
 @V.rec (fun _=>R) (fun _=>Unit) (AN "") (B2 "") (AN "") (Dl "") (AN "") (AN "")
  (fun u=>@Nl.rec (fun _=>R) (.fail "") κ (.fail "") (.fail "") (.fail "") u) (B2 "") (BR "") (AN "") (B2 "") () (fun _ _ _ _=>()) v
def R3 (v:V) (κ:Nat->List V->R):R :=
 @V.rec (fun _=>R) (fun _=>Unit) (AN "") (B2 "") (AN "") (Dl "") (AN "") (AN "") (B2 "") (B2 "")
  (fun f caps _=>κ f caps) (AN "") (B2 "") () (fun _ _ _ _=>()) v
def Wh (o:Cj) (κ:R):R:=@Option.rec Ob (fun _=>R) (.fail "") (fun o=>@Ob.rec (fun _=>R) (BR "") (BR "") (Fe "") (.fail "") (fun _ _=>κ) o) o
def Lx (g:Nat) (l:List Nat) (κ:R):R:=@List.rec Nat (fun _=>R) (.fail "") (fun x _ ih=>br (Nat.beq x g) κ ih) l
def U0 (f:Nat) (its:List Nat) (cf:He) (args:List V) (h:Heap) (n:K4):R :=
 HX args fun v l=>HX l fun s l=>Pl l (NY v (R3 s fun g caps=>Lx g its
  (BP n h (some (.c (.l [.nil .sl]) false none)) fun h=>n.nx fun n1=>BP n1 h (some (.lp f n)) fun h=>n1.nx fun n2 =>
   Da (cf (B8 g) (.oth (.yl n1)::caps) h n2) fun _ h m =>
    Br n1 h fun o=>Wh o (Pd n h fun cs _ _=>FI cs 0 fun sv=>BP n h none fun h=>BP n1 h none fun h=>.rv sv h m))))
section
variable {P:Program} {ρ:Env} {B:Nat} {h:Heap} {n:K4}
def Tr (φ:B0) (h:Heap) (l:Nat):Prop:=∀ q s tot,φ q=some (l,s,tot)->AE q h=none
theorem Tr.step {φ φ1:B0} {h1:Heap} {n1:K4} {w w1:World} {l:Nat} (u:Tr φ h l) (hl:l<w.heap.size) (f:Fr h h1 φ φ1 n n1 w w1):Tr φ1 h1 l:=fun q s tot hq=>by
 rcases f.fresh q l s tot hq with e | e | ⟨r,s',tot',hr,hne⟩
 ·exact f.dm q (by rw [e]; simp) (u q s tot e)
 ·omega
 ·exact absurd (u r s' tot' hr) hne
theorem Gam.poke {φ:B0} {w:World} (g:Gam ρ B h n φ w) {l:Nat} (u:Tr φ h l) (O:Obj) (hno:∀ c e fr,w.heap[l]? ≠ some (.cells c e fr)):Gam ρ B h n φ (w.putObj l O) where
 glob:=fun k c e fr hk=>⟨(g.glob k c e fr hk).1,by rw [World.putObj_heap_other (fun e'=>by subst e'; exact hno _ _ _ (g.glob _ c e fr hk).2)]; exact (g.glob k c e fr hk).2⟩
 base:=by rw [World.putObj_size]; exact g.base
 dom:=g.dom
 blk:=fun p b s t hp=>by rw [World.putObj_size]; exact g.blk p b s t hp
 obj:=fun p o b s t hp hφ=>by
  refine C1 (World.putObj_heap_other fun e=>?_) (g.obj p o b s t hp hφ)
  subst e
  rw [u p s t hφ] at hp; cases hp
 sep:=g.sep
 sup:=g.sup
theorem Fr.around {h1:Heap} {n1:K4} {φ φ1:B0} {w W:World} {l:Nat} {O O0:Obj} (hl:w.heap[l]? = some O0) (f:Fr h h1 φ φ1 n n1 (w.putObj l O) W):Fr h h1 φ φ1 n n1 w (W.putObj l O0):=by
 have hlt:l<w.heap.size:=by
  rcases Nat.lt_or_ge l w.heap.size with e | e
  ·exact e
  ·rw [Array.getElem?_eq_none e] at hl; cases hl
 have hs:=f.size
 rw [World.putObj_size] at hs
 refine ⟨f.ext,f.new,f.nn,f.os,f.tape,f.out,by rw [World.putObj_size]; exact hs,fun b hb hn=>?_,fun q b s t hq=>?_,f.dm⟩
 ·by_cases e:b=l
  ·subst e; rw [World.putObj_heap_same (by omega),hl]
  ·rw [World.putObj_heap_other e,f.old b (by rw [World.putObj_size]; exact hb) hn,World.putObj_heap_other e]
 ·have:=f.fresh q b s t hq
  rwa [World.putObj_size] at this
theorem Fr.poke {h1:Heap} {n1:K4} {φ φ1:B0} {w W:World} {l:Nat} (O:Obj) (hl:w.heap.size≤l) (f:Fr h h1 φ φ1 n n1 w W):Fr h h1 φ φ1 n n1 w (W.putObj l O) :=
 ⟨f.ext,f.new,f.nn,f.os,f.tape,f.out,by rw [World.putObj_size]; exact f.size,fun b hb hn=>by rw [World.putObj_heap_other (by omega)]; exact f.old b hb hn,f.fresh,f.dm⟩
def SD:Regs:=Regs.all (VP.all (.oth .any))
theorem Q7 (p:K2):Bf p SD = .oth .any:=by simp only [Bf,SD,Regs.sel_all,VP.sel_all]
theorem US (hρ:Bn ρ) {cf:CF} {cf2:He} (hcf:DK P ρ B cf) (h2:∀ f,cf2 (B8 f)=cf f) {A:ApC} {rd:Rd} (hrd:RN P A=some rd) {fn:FuncId} {box:K4} {x:V} {Φ:R->Prop}
  (hs:(rd cf2 (.ptr box 0) x h n).sat Φ) {φ:B0} {w:World} {tmps:Array Value} {X:Value} {l D:Nat} (g:Gam ρ B h n φ w) (hl:w.heap[l]? = some (.loop (EP A fn tmps D))) (u:Tr φ h l)
  (hsz:tmps.size=A.ntm) (hbox:AF ρ φ (.ptr box 0) (tmps.getD A.box undef)) (hX:AF ρ φ x X) :
  RoundIn Fence.wide 0 P l fn (tmps.setIfInBounds A.par X) A.asg A.bod w fun e w'=>e = .returned (.bool true) ∧
   ∃ v h1 n1 φ',v = .bool true∧Φ (.rv v h1 n1)∧Fr h h1 φ φ' n n1 w w'∧Gam ρ B h1 n1 φ' w':=by
 unfold RN at hrd
 split at hrd
 ·rename_i oa ob px pb ha hb hpx hpb
  split at hrd
  ·rename_i al bl hal hbl
   split at hrd
   ·rename_i hok
    cases hrd
    simp only [Bool.and_eq_true,Nat.blt_eq] at hok
    obtain ⟨ok1,ok2,nd1,nd2,lt1,lt2,hne⟩:=hok
    have hne:A.par≠A.box:=by simpa using hne
    obtain ⟨i,hasg⟩:=Ke ha
    obtain ⟨j,k,hbod⟩:=NQ hb
    have hlt:l<w.heap.size:=by
     rcases Nat.lt_or_ge l w.heap.size with e | e
     ·exact e
     ·rw [Array.getElem?_eq_none e] at hl; cases hl
    have hpp:px≠pb:=fun e=>hne (K2.ofN_inj hpx (e ▸ hpb))
    have ri:RI [] [px,pb] [(px,x),(pb,.ptr box 0)] (E6 px (E6 pb SD (.ptr box 0)) x) EE:=by
     refine ⟨fun h=>(by cases h),fun p v hp=>?_,fun p hp=>?_,fun p s h=>(by cases h)⟩
     ·by_cases e:px=p
      ·subst e; rw [D9] at hp; cases hp; exact B9 _ _ _
      ·rw [F7 e] at hp
       rw [Bu _ _ e]
       by_cases e':pb=p
       ·subst e'; rw [D9] at hp; cases hp; exact B9 _ _ _
       ·rw [F7 e'] at hp; simp [EV] at hp
     ·by_cases e:px=p
      ·subst e; exact ⟨x,D9⟩
      ·rw [F7 e]
       by_cases e':pb=p
       ·subst e'; exact ⟨_,D9⟩
       ·simp at hp; rcases hp with hp | hp
        ·exact absurd hp.symm e
        ·exact absurd hp.symm e'
    have hT:TR ρ A.ntm φ (E6 px (E6 pb SD (.ptr box 0)) x) { tmps:=tmps.setIfInBounds A.par X,defers:=[] }:={
     size:=by simp [hsz]
     defers:=rfl
     at_:=fun s p hs hp=>by
      show AF ρ φ _ ((tmps.setIfInBounds A.par X).getD s undef)
      by_cases e:A.par=s
      ·subst e
       rw [hpx] at hp; cases hp
       rw [B9,Array.getD_eq_getD_getElem?,Array.getElem?_setIfInBounds_self_of_lt (by omega)]
       exact hX
      ·rw [Bu _ _ (fun e'=>e (K2.ofN_inj hpx (by rw [e']; exact hp))),Array.getD_eq_getD_getElem?,Array.getElem?_setIfInBounds_ne e,←Array.getD_eq_getD_getElem?]
       by_cases e2:A.box=s
       ·subst e2
        rw [hpb] at hp; cases hp
        rw [B9]; exact hbox
       ·rw [Bu _ _ (fun e'=>e2 (K2.ofN_inj hpb (by rw [e']; exact hp))),Q7]
        simp only [AF] }
    have hs:(D4 [] cf2 al [(px,x),(pb,.ptr box 0)] EE h n fun env t h n=>D4 [] cf2 bl env t h n fun _ _ h n=>.rv (.bool true) h n).sat Φ:=hs
    obtain ⟨env1,t1,t1',h1,n1,e1,ri1,H1⟩:=Dj (B:=B) (ops:=oa) hρ hcf h2 hal ok1 ri (R.sat_good hs)
    rw [e1] at hs
    obtain ⟨env2,t2,t2',h2',n2,e2,ri2,H2⟩:=Dj (B:=B) (ops:=ob) hρ hcf h2 hbl ok2 ri1 (R.sat_good hs)
    rw [e2] at hs
    have hs:Φ (.rv (.bool true) h2' n2):=hs
    refine roundIn_of_wpIn trivial ?_
    rw [hasg,hbod]
    have c1:=DD (l:=some l) (n:=0) (r:=[]) (.inr (IE nd1)) (H1 φ _ w hT g (Exit.then (fun a₁ w₁=>∃ w₂,(Instr.beginRound l).run P w₁ = .ok () w₂∧(Code.block j (.region k ob false)).wpIn (Fence.wide.inRound l) 0 P (roundPost P l (fun e w'=>e = .returned (.bool true) ∧
      ∃ v h1 n1 φ',v = .bool true∧Φ (.rv v h1 n1)∧Fr h h1 φ φ' n n1 w w'∧Gam ρ B h1 n1 φ' w')) a₁ w₂) (fun _ _ _=>False)) (wpListIn (Lf (some l)) 0 P oa _ []) fun φ1 a1 w1 f1 g1 T1=>wpListIn_nil (F:=Lf (some l)) ?_)
    ·rw [List.append_nil] at c1
     exact wpIn_region_list c1
    ·have u1:=u.step hlt f1
     have hl1:w1.heap[l]? = some (.loop (EP A fn tmps D)):=(f1.old l hlt u).trans hl
     refine ⟨_,run_beginRound hl1 rfl,wpIn_block (wpIn_region_list ?_)⟩
     have g1':=g1.poke u1 (.loop { EP A fn tmps D with state:=.busy }) (fun c e fr h=>by rw [hl1] at h; cases h)
     have c2:=DD (l:=some l) (n:=0) (r:=[]) (.inr (IE nd2)) (H2 φ1 a1 _ T1 g1' (Exit.inBlock j (roundPost P l (fun e w'=>e = .returned (.bool true) ∧
      ∃ v h1 n1 φ',v = .bool true∧Φ (.rv v h1 n1)∧Fr h h1 φ φ' n n1 w w'∧Gam ρ B h1 n1 φ' w'))) (wpListIn (Lf (some l)) 0 P ob _ []) fun φ2 a2 w2 f2 g2 T2=>wpListIn_nil (F:=Lf (some l)) ?_)
     ·rw [List.append_nil] at c2; exact c2
     ·have hlt1:l<(w1.putObj l (.loop { EP A fn tmps D with state:=.busy })).heap.size:=by rw [World.putObj_size]; have:=f1.size; omega
      have u2:=u1.step hlt1 f2
      have hl2:w2.heap[l]? = some (.loop { EP A fn tmps D with state:=.busy }):=(f2.old l hlt1 u1).trans (World.putObj_heap_same (by rwa [World.putObj_size] at hlt1))
      exact ⟨_,_,run_endRound none hl2,rfl,_,h2',n2,φ2,rfl,hs,Fr.trans f1 (f2.around hl1),g2.poke u2 _ (fun c e fr h=>by rw [hl2] at h; cases h)⟩
   ·cases hrd
  ·cases hrd
 ·cases hrd
def IU (P:Program) (g:FuncId):Prop:=∃ fn c,P.funcs[g]? = some fn∧fn.body=some c∧(fn.name == "runtime.NumGoroutine")=false
theorem EF {l:List V} {κ:V->List V->R} (hg:(HX l κ).good):∃ x xs,l=x::xs∧HX l κ=κ x xs:=by
 cases l with
 | nil=>exact hg.elim
 | cons x xs=>exact ⟨x,xs,rfl,rfl⟩
theorem Ht {l:List V} {κ:R} (hg:(Pl l κ).good):l=[]∧Pl l κ=κ:=by
 cases l with
 | nil=>exact ⟨rfl,rfl⟩
 | cons x xs=>exact hg.elim
theorem ML {v:V} {κ:R} (hg:(NY v κ).good):v = .nil .sl∧NY v κ=κ:=by
 cases v with
 | nil u=>cases u with
  | sl=>exact ⟨rfl,rfl⟩
  | _=>exact hg.elim
 | _=>exact hg.elim
theorem Ol {v:V} {κ:Nat->List V->R} (hg:(R3 v κ).good):∃ f l,v = .fn f l∧R3 v κ=κ f l:=by
 cases v with
 | fn f l=>exact ⟨f,l,rfl,rfl⟩
 | _=>exact hg.elim
theorem Rh {o:Cj} {κ:R} (hg:(Wh o κ).good):(∃ f b,o=some (.lp f b))∧Wh o κ=κ:=by
 cases o with
 | none=>exact hg.elim
 | some ob=>cases ob with
  | lp f b=>exact ⟨⟨f,b,rfl⟩,rfl⟩
  | _=>exact hg.elim
theorem J5 {g:Nat}:∀ {l:List Nat} {κ:R},(Lx g l κ).good->g∈l∧Lx g l κ=κ
 | [],κ,hg=>hg.elim
 | x::l,κ,hg=>by
  have hg:R.good (br (Nat.beq x g) κ (Lx g l κ)):=hg
  show _∧br (Nat.beq x g) κ (Lx g l κ)=κ
  cases hb:Nat.beq x g with
  | true=>exact ⟨by rw [Nat.eq_of_beq_eq_true hb]; exact List.mem_cons_self ..,rfl⟩
  | false =>
   rw [hb] at hg
   obtain ⟨h1,h2⟩:=J5 (show R.good (Lx g l κ) from hg)
   exact ⟨List.mem_cons_of_mem _ h1,h2⟩
theorem BE {o:Oper} {a:Act} {w w':World} {x:Value} {K:Act->World->Prop} {Q:Exit->Act->World->Prop} (hr:(execOp a.eval o).run P w = .ok (.value x) w') (hK:K (a.put o.dst x) w'):o.wpIn Fence.wide 0 P a w K Q :=
 Pm (l:=none) (.inl rfl) (fun _ _ h=>h) (show o.wp P a w K Q by unfold Oper.wp; rw [hr]; exact hK)
theorem UE {f:FuncId} {its:List Nat} {A:ApC} (hA:ρ.ap f=some A) (hsh:Kq P f=some A) (hits:∀ g∈its,IU P g) {cf:CF} {cf2:He} (hcf:Hh P ρ B cf) (h2:∀ f,cf2 (B8 f)=cf f) {args:List V} {Φ:R->Prop}
  (hr:(U0 f its cf2 args h n).sat Φ) {φ:B0} {w:World} {xs:Array Value} (g:Gam ρ B h n φ w) (hxs:Bs ρ φ args xs.toList) :
  Jw P f xs w fun x w'=>∃ v h1 n1 φ',Φ (.rv v h1 n1)∧Fr h h1 φ φ' n n1 w w'∧Gam ρ B h1 n1 φ' w'∧AF ρ φ' v x:=by
 unfold Kq at hsh
 split at hsh
 next fn hfn =>
  split at hsh
  next i0 r0 i1 r1 b0 s6 ps asg bod i4 r4 hbody =>
   split at hsh
   next o1 o2 o3 o4 o5 par s4 e0 e1 e4 eps ers =>
    split at hsh
    next tS s0 c2 s1 tL s2 s12 p1 p2 p3 p4 p5 =>
     split at hsh
     next hc =>
      obtain ⟨hname,hnt,rfl,rfl,rfl,rfl,rfl,rfl,d1,d2,d3,d4,d5,g1,g2,g3,g4,g5,hagg⟩:=hc
      cases hsh
      have hname:(fn.name == "runtime.NumGoroutine")=false:=hname
      -- the arguments
      unfold U0 at hr
      obtain ⟨v,l,rfl,q1⟩:=EF (R.sat_good hr)
      rw [q1] at hr
      obtain ⟨s,l,rfl,q2⟩:=EF (R.sat_good hr)
      rw [q2] at hr
      obtain ⟨rfl,q3⟩:=Ht (R.sat_good hr)
      rw [q3] at hr
      obtain ⟨rfl,q4⟩:=ML (R.sat_good hr)
      rw [q4] at hr
      obtain ⟨it,caps,rfl,q5⟩:=Ol (R.sat_good hr)
      rw [q5] at hr
      obtain ⟨hmem,q6⟩:=J5 (R.sat_good hr)
      rw [q6,BW,Bz] at hr
      rcases K4.nx_eq n _ with ⟨m,e⟩ | ⟨n1,hn1,e⟩
      ·rw [e] at hr; exact hr.elim
      rw [e,BW,Bz] at hr
      rcases K4.nx_eq n1 _ with ⟨m,e⟩ | ⟨n2,hn2,e'⟩
      ·rw [e] at hr; exact hr.elim
      rw [e'] at hr
      have hr:=DF hr
      rw [h2] at hr
      obtain ⟨X0,l0,hx0,r0',hl0⟩:=AD.1 hxs
      obtain ⟨X1,l1,rfl,r1',hl1⟩:=AD.1 hl0
      have hl1:=AL.1 hl1
      subst hl1
      have hX0:=BK r0'
      obtain ⟨cs,hX1,rcs⟩:=Ii r1'
      have hps:ps = #[par]:=by cases ps; simp at eps; rw [eps]
      have hres:fn.results = #[.tmp 4]:=by cases hh:fn.results with | mk l=>rw [hh] at ers; simp at ers; rw [ers]
      -- the box
      obtain ⟨ga,fa⟩:=Cm g (n':=n1) hn1 (e:=tS) (fr:=(0,0)) (c:=#[X0]) (cs:=.l [.nil .sl]) (by simp [Cs.len]) (IN _)
       (by have:=Dz (ρ:=ρ) (φ:=φ) (l:=[.nil .sl]) (xs:=[X0]) (AD.2 ⟨X0,[],rfl,r0',AL.2 rfl⟩) (by simp [hX0,BX,Value.oneCell']); simpa using this)
      generalize hW0:w.alloc (.cells #[X0] tS (0,0))=W0 at ga fa
      have hb0:W0.heap[w.heap.size]? = some (.cells #[X0] tS (0,0)):=by rw [←hW0]; exact World.alloc_heap_new w _
      have gb:=ga.push (.deferred (some []))
      have fb:=Fr.trans fa (Fr.push (h:=AZ n h (some (.c (.l [.nil .sl]) false none))) (n:=n1) (φ:=DT φ n (w.heap.size,0,(#[X0]:Array Value).size)) (.deferred (some [])))
      have hs0:W0.heap.size=w.heap.size+1:=by rw [←hW0,World.size_alloc]
      generalize htm:((((#[X0,X1]:Array Value)++Array.replicate (fn.ntmps - 2) undef).setIfInBounds 2 (.pointer (some ⟨w.heap.size,0,none⟩))).setIfInBounds 4 c2).setIfInBounds 6 X1=tm
      have htsz:tm.size=13:=by rw [←htm,hnt]; simp
      have ht2:tm.getD 2 undef = .pointer (some ⟨w.heap.size,0,none⟩):=by rw [←htm,hnt]; simp [Array.getD_eq_getD_getElem?]
      have ht6:tm.getD 6 undef=X1:=by rw [←htm,hnt]; simp [Array.getD_eq_getD_getElem?]
      intro o a K Q hK
      have hcf':(callFunc f #[X0,X1]).run P w = .ok (.enter f #[X0,X1]) w:=by
       have hname':fn.name ≠ "runtime.NumGoroutine":=by simpa using hname
       simp [callFunc,hfn,hname',hbody]
      have hxe:xs = #[X0,X1]:=by cases xs; simp at hx0; rw [hx0]
      rw [hxe,hcf']
      refine (callsIn_wide (n:=0)).1 (callsIn_of_wp_marks hfn hbody trivial ?_ rfl)
      have ev0:Act.eval { tmps:=(#[X0,X1]:Array Value)++Array.replicate (fn.ntmps - (#[X0,X1]:Array Value).size) undef,defers:=[] } (.tmp 0)=X0:=by
       simp [Act.eval,Array.getD_eq_getD_getElem?,Array.getElem?_append]
      have hcl:X0.cells = #[X0]:=by rw [hX0]; rfl
      refine wpIn_seq (wpIn_region_list ?_)
      rw [e0]
      refine wpListIn_plain g1 fun K1 hK1=>BE (x:=.pointer (some ⟨w.heap.size,0,none⟩)) (w':=W0) (by rw [←hW0]; simp only [execOp,p1,ev0]; simp [Instr.box,newVar,EH,hcl]) (hK1 _ _ ?_)
      refine wpListIn_plain g2 fun K2 hK2=>BE (x:=c2) (w':=W0) (by simp [execOp,p2,Act.eval]) (hK2 _ _ ?_)
      refine wpListIn_nil ?_
      refine wpIn_seq (wpIn_seq (wpIn_region_list ?_))
      rw [e1]
      refine wpListIn_plain g3 fun K3 hK3=>BE (x:=X1) (w':=W0) (by simp only [execOp,p3,Act.eval,Act.put,d1,d2,hnt]; simp [Array.getD_eq_getD_getElem?,Array.getElem?_setIfInBounds]) (hK3 _ _ ?_)
      refine wpListIn_nil ?_
      refine wpIn_block (wpIn_rangeFunc fun fn' _=>?_)
      have hact:((({ tmps:=(#[X0,X1]:Array Value)++Array.replicate (fn.ntmps - (#[X0,X1]:Array Value).size) undef,defers:=[] }:Act).put o1.dst (.pointer (some ⟨w.heap.size,0,none⟩))).put o2.dst c2).put o3.dst X1={ tmps:=tm,defers:=[] }:=by
       rw [d1,d2,d3,←htm]; rfl
      rw [hact]
      generalize hWb:W0.alloc (.deferred (some []))=Wb at gb fb
      have hsb:Wb.heap.size=w.heap.size+2:=by rw [←hWb,World.size_alloc,hs0]
      have hDb:Wb.heap[w.heap.size+1]? = some (.deferred (some [])):=by rw [←hWb,←hs0]; exact World.alloc_heap_new _ _
      have hn1':DT φ n (w.heap.size,0,(#[X0]:Array Value).size) n1=none:=gb.at_n
      have gc:=gb.alloc (p:=n1) (n':=n2) hn1' (by omega) (by omega) (.lp f n) rfl (.loop (EP ⟨asg,bod,par,2,13⟩ fn' tm W0.heap.size)) 0
       (fun φ' hle w' hw'=>⟨rfl,⟨asg,bod,par,2,13⟩,fn',tm,W0.heap.size,hA,hw',htsz,by rw [ht2]; exact EB hle CK⟩)
      have fc:=Fr.trans fb (Fr.alloc (h:=AZ n h (some (.c (.l [.nil .sl]) false none))) (w:=Wb) (n:=n1) (n':=n2) (p:=n1) hn1' (by omega) (Nat.le_refl _) (by omega) (some (.lp f n)) (.loop (EP ⟨asg,bod,par,2,13⟩ fn' tm W0.heap.size)) 0)
      generalize hWc:Wb.alloc (.loop (EP ⟨asg,bod,par,2,13⟩ fn' tm W0.heap.size))=Wc at gc fc
      have hsc:Wc.heap.size=w.heap.size+3:=by rw [←hWc,World.size_alloc,hsb]
      have hDc:Wc.heap[w.heap.size+1]? = some (.deferred (some [])):=by rw [←hWc,Below.heap_alloc _ _ _ (by omega)]; exact hDb
      have hφn:φ n=none:=g.at_n
      have hφn1:φ n1=none:=by
       cases hx:φ n1 with
       | none=>rfl
       | some x=>have:=g.dom n1 x hx; omega
      generalize hφc:DT (DT φ n (w.heap.size,0,(#[X0]:Array Value).size)) n1 (Wb.heap.size,0,0)=φc at gc fc
      have hcn1:φc n1=some (w.heap.size+2,0,0):=by rw [←hφc,BJ,hsb]
      have hnn:n1≠n:=fun e=>by rw [e] at hn1; omega
      have hcn:φc n=some (w.heap.size,0,1):=by rw [←hφc,Gm hnn,BJ]; rfl
      have huD:Tr φc (AZ n1 (AZ n h (some (.c (.l [.nil .sl]) false none))) (some (.lp f n))) (w.heap.size+1):=fun q s tot hq=>by
       rw [←hφc] at hq
       rcases AO hq with ⟨_,e⟩ | ⟨_,hq⟩
       ·simp only [Prod.mk.injEq] at e; omega
       ·rcases AO hq with ⟨_,e⟩ | ⟨_,hq⟩
        ·simp only [Prod.mk.injEq] at e; omega
        ·have:=(g.blk q _ _ _ hq).2; omega
      obtain ⟨fng,cg,hg1,hg2,hg3⟩:=hits it hmem
      have call:=GJ hg1 hg2 (by simpa using hg3) (hcf it _ _ n2 _ hr φc Wc (#[.func (.yield (w.heap.size+2)) #[] #[]]++cs) gc (by
       rw [Array.toList_append]
       exact AD.2 ⟨_,cs.toList,rfl,by simp only [AF]; exact ⟨_,_,_,hcn1,rfl⟩,by rw [←hφc]; exact F5 (B0.le_trans (CC hφn) (CC hn1')) rcs⟩))
      refine ⟨w.heap.size+2,[{ target:=.collected (w.heap.size+1),args:=#[] }],Wc,{ target:=.fn (.func it) cs,args:=#[.func (.yield (w.heap.size+2)) #[] #[]] },Wc,it,#[.func (.yield (w.heap.size+2)) #[] #[]]++cs,Wc,?_,?_,?_,?_,fun h=>(by cases h),?_⟩
      ·have:=run_enterLoop_outer (P:=P) (w:=W0) fn' tm ps asg bod
       rw [hs0] at this
       show (Instr.enterLoop fn' tm ps asg bod none).run P W0=_
       rw [this,hWb,hps,←hWc,hs0]; rfl
      ·have e6:Act.eval { tmps:=tm,defers:=[] } (.tmp 6) = .func (.func it) #[] cs:=by show tm.getD 6 undef=_; rw [ht6,hX1]
       simp only [resolve,rangeCall,e6,Deferred.ofValue]
       simp [Act.eval]
      ·intro _ _; trivial
      ·simp [invoke,callFunc,hg1,hg2,show fng.name ≠ "runtime.NumGoroutine" by simpa using hg3]
      ·refine (callsIn_wide (n:=0)).2 (call.mono fun e w3 he=>?_)
       cases e with
       | panicked c=>exact he.elim
       | outgrown=>exact he.elim
       | returned u =>
       obtain ⟨v,h3,n3,φ3,hΦ,f3,g3',_⟩:∃ v h1 n1 φ',Ty _ Φ (.rv v h1 n1)∧Fr _ h1 φc φ' n2 n1 Wc w3∧Gam ρ B h1 n1 φ' w3∧AF ρ φ' v u:=he
       have hΦ:(Br n1 h3 fun o=>Wh o (Pd n h3 fun cs _ _=>FI cs 0 fun sv=>BP n h3 none fun h=>BP n1 h none fun h=>.rv sv h n3)).sat Φ:=hΦ
       rw [BC] at hΦ
       obtain ⟨⟨f',b',hlp⟩,q7⟩:=Rh (R.sat_good hΦ)
       rw [q7,G7] at hΦ
       obtain ⟨cs3,sup3,prev3,hbx,q8⟩:=CO (R.sat_good hΦ)
       rw [q8] at hΦ
       obtain ⟨sv,hsv,q9⟩:=Gn (R.sat_good hΦ)
       rw [q9,BW,Bz,BW,Bz] at hΦ
       have hΦ:Φ (.rv sv (AZ n1 (AZ n h3 none) none) n3):=hΦ
       have h3n:=f3.ext _ _ hcn
       have h3n1:=f3.ext _ _ hcn1
       obtain ⟨_,A3,fn3,tm3,D3,_,hrec,_,_⟩:=g3'.obj n1 _ _ _ _ hlp h3n1
       obtain ⟨c3,e3,fr3,k1,k2,k3,k4,k5⟩:=g3'.obj n _ _ _ _ hbx h3n
       obtain ⟨SV,hSV,rSV,_⟩:=k5 0 sv hsv
       have hD3:w3.heap[w.heap.size+1]? = some (.deferred (some [])):=(f3.old _ (by omega) huD).trans hDc
       have uD3:=huD.step (by omega) f3
       have ul3:Tr φ3 (AZ n1 (AZ n h3 none) none) (w.heap.size+2):=fun q s tot hq=>by
        by_cases e:n1=q
        ·subst e; exact AB _ _ _
        ·rw [Aq _ _ e]
         by_cases e':n=q
         ·subst e'; exact AB _ _ _
         ·rw [Aq _ _ e']
          cases hq':AE q h3 with
          | none=>rfl
          | some o2 =>
           rcases g3'.sep n1 q _ o2 _ _ _ s tot e hlp hq' h3n1 hq with e2 | e2
           ·cases e2
           ·have:=g3'.sup q n1 o2 _ _ s tot _ _ hq' e2 hlp hq h3n1; cases this
       refine ⟨none,w3.putObj (w.heap.size+2) (.loop { EP A3 fn3 tm3 D3 with state:=.exhausted }),run_endLoop hrec (by simp),?_⟩
       refine wpIn_seq (wpIn_region_list ?_)
       rw [e4]
       generalize hw4:w3.putObj (w.heap.size+2) (.loop { EP A3 fn3 tm3 D3 with state:=.exhausted })=w4
       have hb4:w4.heap[w.heap.size]? = some (.cells c3 e3 fr3):=by rw [←hw4,World.putObj_heap_other (by omega)]; exact k1
       have hD4:w4.heap[w.heap.size+1]? = some (.deferred (some [])):=by rw [←hw4,World.putObj_heap_other (by omega)]; exact hD3
       have hld:(execOp (Act.eval { tmps:=tm,defers:=[{ target:=.collected (w.heap.size+1),args:=#[] }]++[] }) o4).run P w4 = .ok (.value SV) w4:=by
        have e2:Act.eval { tmps:=tm,defers:=[{ target:=.collected (w.heap.size+1),args:=#[] }]++[] } (.tmp 2) = .pointer (some ⟨w.heap.size,0,none⟩):=ht2
        simp only [execOp,p4,e2]
        simp [Instr.loadAt,Instr.sureAddr,loadVar,Cw hagg,Gh hb4 hSV]
       refine wpListIn_plain g4 fun K4 hK4=>BE hld (hK4 _ _ ?_)
       refine wpListIn_plain g5 fun K5 hK5=>BE (x:=SV) (w':=w4) (by
        simp only [execOp,p5,Act.eval,Act.put,d4]; simp [Array.getD_eq_getD_getElem?,htsz]) (hK5 _ _ ?_)
       refine wpListIn_nil (wpIn_ret ?_)
       have take:=run_takeDeferred (P:=P) hD4
       rw [d4,d5]
       show LeavesInM Fence.wide 0 P fn _ _ [{ target:=.collected (w.heap.size+1),args:=#[] }] .returning w4
       unfold LeavesInM
       refine ⟨(by intro h; cases h),.inl ⟨w.heap.size+1,_,rfl,take,?_⟩⟩
       unfold LeavesInM LeavesIn
       refine ⟨SV,?_,?_⟩
       ·simp [results,hres,Act.put,htsz,Array.getD_eq_getD_getElem?]
       ·have hna:∀ q,φ q≠none->AE q (AZ n1 (AZ n h3 none) none)=AE q h3:=fun q hq=>by
         rw [Aq _ _ (fun e:n1=q=>hq (by rw [←e]; exact hφn1)),Aq _ _ (fun e:n=q=>hq (by rw [←e]; exact hφn))]
        have fz:=((Fr.trans fc f3).show hna).poke (l:=w.heap.size+2) (.loop { EP A3 fn3 tm3 D3 with state:=.exhausted }) (by omega)
        have gz:=(g3'.aside (p:=n)).aside (p:=n1)
        have gz:=gz.poke ul3 (.loop { EP A3 fn3 tm3 D3 with state:=.exhausted }) (fun c e fr h=>by rw [hrec] at h; cases h)
        rw [hw4] at fz gz
        have uDz:Tr φ3 (AZ n1 (AZ n h3 none) none) (w.heap.size+1):=fun q s tot hq=>by
         by_cases e:n1=q
         ·subst e; exact AB _ _ _
         ·rw [Aq _ _ e]
          by_cases e':n=q
          ·subst e'; exact AB _ _ _
          ·rw [Aq _ _ e']; exact uD3 q s tot hq
        exact hK SV _ ⟨sv,_,n3,φ3,hΦ,fz.poke _ (by omega),gz.poke uDz _ (fun c e fr h=>by rw [hD4] at h; cases h),rSV⟩
     next=>cases hsh
    next=>cases hsh
   next=>cases hsh
  next=>cases hsh
 next=>cases hsh
end
end Go.Ev

namespace Go.Ev
set_option linter.unusedVariables false
inductive Ent where
 | code (entry:List V->(S->R)->R) (body:He->S->Heap->K4->R) (res:S->Heap->K4->R)
 | prim (p:HY)
 | br (k:Nat) (entry:List V->(S->R)->R) (body:He->S->Heap->K4->R) (res:S->Heap->K4->R)
 | ap (f:Nat) (its:List Nat) (rd:Rd)
 | tree (p:HY)
abbrev De:=Option Ent
def Ent.toBr (k:Nat) (e:Ent):Ent:=@Ent.rec (fun _=>Ent) (fun en bo re=>.br k en bo re) (fun p=>.prim p) (fun k en bo re=>.br k en bo re) (fun f its rd=>.ap f its rd) (fun p=>.tree p) e
inductive FA where
 | mk (A B C E F G I J L M N O P Q T U:De)
def FA.sel (d:D) (p:FA):De :=
 @FA.rec (fun _=>De) (fun A B C E F G I J L M N O P Q T U=>@D.rec (fun _=>De) A B C E F G I J L M N O P Q T U d) p
def Xq (p:FA) (k:De->R):R:=@FA.rec (fun _=>R) (fun A B C E F G I J L M N O P Q T U=>k A) p
def YC (p:FA) (k:De->R):R:=@FA.rec (fun _=>R) (fun A B C E F G I J L M N O P Q T U=>k B) p
def Zo (p:FA) (k:De->R):R:=@FA.rec (fun _=>R) (fun A B C E F G I J L M N O P Q T U=>k C) p
def WR (p:FA) (k:De->R):R:=@FA.rec (fun _=>R) (fun A B C E F G I J L M N O P Q T U=>k E) p
def Zl (p:FA) (k:De->R):R:=@FA.rec (fun _=>R) (fun A B C E F G I J L M N O P Q T U=>k F) p
def Zj (p:FA) (k:De->R):R:=@FA.rec (fun _=>R) (fun A B C E F G I J L M N O P Q T U=>k G) p
def X2 (p:FA) (k:De->R):R:=@FA.rec (fun _=>R) (fun A B C E F G I J L M N O P Q T U=>k I) p
def XN (p:FA) (k:De->R):R:=@FA.rec (fun _=>R) (fun A B C E F G I J L M N O P Q T U=>k J) p
def WH (p:FA) (k:De->R):R:=@FA.rec (fun _=>R) (fun A B C E F G I J L M N O P Q T U=>k L) p
def Zr (p:FA) (k:De->R):R:=@FA.rec (fun _=>R) (fun A B C E F G I J L M N O P Q T U=>k M) p
def UL (p:FA) (k:De->R):R:=@FA.rec (fun _=>R) (fun A B C E F G I J L M N O P Q T U=>k N) p
def W2 (p:FA) (k:De->R):R:=@FA.rec (fun _=>R) (fun A B C E F G I J L M N O P Q T U=>k O) p
def Vu (p:FA) (k:De->R):R:=@FA.rec (fun _=>R) (fun A B C E F G I J L M N O P Q T U=>k P) p
def Vo (p:FA) (k:De->R):R:=@FA.rec (fun _=>R) (fun A B C E F G I J L M N O P Q T U=>k Q) p
def UB (p:FA) (k:De->R):R:=@FA.rec (fun _=>R) (fun A B C E F G I J L M N O P Q T U=>k T) p
def VS (p:FA) (k:De->R):R:=@FA.rec (fun _=>R) (fun A B C E F G I J L M N O P Q T U=>k U) p
def FA.selK (d:D):FA->(De->R)->R :=
 @D.rec (fun _=>FA->(De->R)->R) Xq YC Zo WR Zl Zj X2 XN WH Zr UL W2 Vu Vo UB VS d
theorem FA.selK_eq (d:D) (p:FA) (k:De->R):FA.selK d p k=k (FA.sel d p):=by
 cases d <;> cases p <;> rfl
inductive FB where
 | mk (A B C E F G I J L M N O P Q T U:FA)
def FB.sel (d:D) (p:FB):FA :=
 @FB.rec (fun _=>FA) (fun A B C E F G I J L M N O P Q T U=>@D.rec (fun _=>FA) A B C E F G I J L M N O P Q T U d) p
def XG (p:FB) (k:FA->R):R:=@FB.rec (fun _=>R) (fun A B C E F G I J L M N O P Q T U=>k A) p
def Zd (p:FB) (k:FA->R):R:=@FB.rec (fun _=>R) (fun A B C E F G I J L M N O P Q T U=>k B) p
def Z1 (p:FB) (k:FA->R):R:=@FB.rec (fun _=>R) (fun A B C E F G I J L M N O P Q T U=>k C) p
def Zq (p:FB) (k:FA->R):R:=@FB.rec (fun _=>R) (fun A B C E F G I J L M N O P Q T U=>k E) p
def Z8 (p:FB) (k:FA->R):R:=@FB.rec (fun _=>R) (fun A B C E F G I J L M N O P Q T U=>k F) p
def YM (p:FB) (k:FA->R):R:=@FB.rec (fun _=>R) (fun A B C E F G I J L M N O P Q T U=>k G) p
def Ye (p:FB) (k:FA->R):R:=@FB.rec (fun _=>R) (fun A B C E F G I J L M N O P Q T U=>k I) p
def Xd (p:FB) (k:FA->R):R:=@FB.rec (fun _=>R) (fun A B C E F G I J L M N O P Q T U=>k J) p
def WQ (p:FB) (k:FA->R):R:=@FB.rec (fun _=>R) (fun A B C E F G I J L M N O P Q T U=>k L) p
def XY (p:FB) (k:FA->R):R:=@FB.rec (fun _=>R) (fun A B C E F G I J L M N O P Q T U=>k M) p
def W1 (p:FB) (k:FA->R):R:=@FB.rec (fun _=>R) (fun A B C E F G I J L M N O P Q T U=>k N) p
def Vk (p:FB) (k:FA->R):R:=@FB.rec (fun _=>R) (fun A B C E F G I J L M N O P Q T U=>k O) p
def Vi (p:FB) (k:FA->R):R:=@FB.rec (fun _=>R) (fun A B C E F G I J L M N O P Q T U=>k P) p
def Vm (p:FB) (k:FA->R):R:=@FB.rec (fun _=>R) (fun A B C E F G I J L M N O P Q T U=>k Q) p
def V8 (p:FB) (k:FA->R):R:=@FB.rec (fun _=>R) (fun A B C E F G I J L M N O P Q T U=>k T) p
def UC (p:FB) (k:FA->R):R:=@FB.rec (fun _=>R) (fun A B C E F G I J L M N O P Q T U=>k U) p
def FB.selK (d:D):FB->(FA->R)->R :=
 @D.rec (fun _=>FB->(FA->R)->R) XG Zd Z1 Zq Z8 YM Ye Xd WQ XY W1 Vk Vi Vm V8 UC d
theorem FB.selK_eq (d:D) (p:FB) (k:FA->R):FB.selK d p k=k (FB.sel d p):=by
 cases d <;> cases p <;> rfl
inductive FC where
 | mk (A B C E F G I J L M N O P Q T U:FB)
def FC.sel (d:D) (p:FC):FB :=
 @FC.rec (fun _=>FB) (fun A B C E F G I J L M N O P Q T U=>@D.rec (fun _=>FB) A B C E F G I J L M N O P Q T U d) p
def XE (p:FC) (k:FB->R):R:=@FC.rec (fun _=>R) (fun A B C E F G I J L M N O P Q T U=>k A) p
def Xb (p:FC) (k:FB->R):R:=@FC.rec (fun _=>R) (fun A B C E F G I J L M N O P Q T U=>k B) p
def WP (p:FC) (k:FB->R):R:=@FC.rec (fun _=>R) (fun A B C E F G I J L M N O P Q T U=>k C) p
def WA (p:FC) (k:FB->R):R:=@FC.rec (fun _=>R) (fun A B C E F G I J L M N O P Q T U=>k E) p
def XV (p:FC) (k:FB->R):R:=@FC.rec (fun _=>R) (fun A B C E F G I J L M N O P Q T U=>k F) p
def WG (p:FC) (k:FB->R):R:=@FC.rec (fun _=>R) (fun A B C E F G I J L M N O P Q T U=>k G) p
def YZ (p:FC) (k:FB->R):R:=@FC.rec (fun _=>R) (fun A B C E F G I J L M N O P Q T U=>k I) p
def XL (p:FC) (k:FB->R):R:=@FC.rec (fun _=>R) (fun A B C E F G I J L M N O P Q T U=>k J) p
def Z7 (p:FC) (k:FB->R):R:=@FC.rec (fun _=>R) (fun A B C E F G I J L M N O P Q T U=>k L) p
def WE (p:FC) (k:FB->R):R:=@FC.rec (fun _=>R) (fun A B C E F G I J L M N O P Q T U=>k M) p
def W5 (p:FC) (k:FB->R):R:=@FC.rec (fun _=>R) (fun A B C E F G I J L M N O P Q T U=>k N) p
def W6 (p:FC) (k:FB->R):R:=@FC.rec (fun _=>R) (fun A B C E F G I J L M N O P Q T U=>k O) p
def UH (p:FC) (k:FB->R):R:=@FC.rec (fun _=>R) (fun A B C E F G I J L M N O P Q T U=>k P) p
def V4 (p:FC) (k:FB->R):R:=@FC.rec (fun _=>R) (fun A B C E F G I J L M N O P Q T U=>k Q) p
def Vj (p:FC) (k:FB->R):R:=@FC.rec (fun _=>R) (fun A B C E F G I J L M N O P Q T U=>k T) p
def UF (p:FC) (k:FB->R):R:=@FC.rec (fun _=>R) (fun A B C E F G I J L M N O P Q T U=>k U) p
def FC.selK (d:D):FC->(FB->R)->R :=
 @D.rec (fun _=>FC->(FB->R)->R) XE Xb WP WA XV WG YZ XL Z7 WE W5 W6 UH V4 Vj UF d
theorem FC.selK_eq (d:D) (p:FC) (k:FB->R):FC.selK d p k=k (FC.sel d p):=by
 cases d <;> cases p <;> rfl
def JI (k:K3) (T:FC):De:=FA.sel k.c (FB.sel k.b (FC.sel k.a T))
def TP (k:K3) (T:FC) (κ:De->R):R:=@K3.rec (fun _=>R) (fun a b c=>FC.selK a T fun x=>FB.selK b x fun y=>FA.selK c y κ) k
theorem Te (k:K3) (T:FC) (κ:De->R):TP k T κ=κ (JI k T):=by
 cases k; simp only [TP,JI,FC.selK_eq,FB.selK_eq,FA.selK_eq]
abbrev N0 (ps:List K2):List V->Regs->(Regs->R)->R :=
 @List.rec K2 (fun _=>List V->Regs->(Regs->R)->R) (fun l t κ=>Pl l (κ t)) (fun p _ ih l t κ=>HX l fun v l=>Mu p t v fun t=>ih l t κ) ps
theorem MY:∀ (ps:List K2) (l:List V) (t:Regs) (κ:Regs->R),N0 ps l t κ=QD l ps t κ
 | [],l,t,κ=>by cases l <;> rfl
 | p::ps,l,t,κ=>by
  cases l with
  | nil=>rfl
  | cons v l =>
   show Mu p t v (fun t=>N0 ps l t κ)=Mu p t v fun t=>QD l ps t κ
   rw [M4,M4,MY]
def Ra (r:R) (res:S->Heap->K4->R):R :=
 @R.rec (fun _=>R) (fun e t h n=>@Ex.rec (fun _=>R) (res t h n) (B2 "") (res t h n) e) (BR "") (fun w=>.fail w) (fun _ _ a b=>.both a b) r
def MW (r:R):R:=@R.rec (fun _=>R) (Fe "") (fun v h n=>.rv v h n) (fun w=>.fail w) (Fe "") r
def Ts (v:V) (yes no:R):R :=
 @V.rec (fun _=>R) (fun _=>Unit) (fun _ _=>no) (fun _=>no) (fun _ _=>no) (fun _ _ _ _ _ _=>no) (fun _ _=>no) (fun _ _=>no) (fun _=>no) (fun _=>no) (fun _ _ _=>no) (fun _ _=>no)
  (fun o=>@Ot.rec (fun _=>R) no (fun _=>no) (fun _=>no) yes (fun _ _ _=>no) (fun _ _=>no) no (fun _ _=>no) (fun _ _ _ _=>no) (fun _ _ _ _=>no) (fun _ _ _=>no) (fun _ _=>no) o) () (fun _ _ _ _=>()) v
def YJ (f:Nat) (its:List Nat) (rd:Rd) (cf:He) (args:List V) (h:Heap) (n:K4):R :=
 HX args fun v l=>Ts v (HX l fun b l=>HX l fun x l=>Pl l (rd cf b x h n)) (U0 f its cf args h n)
def Sl (cf:He) (o:De) (args:List V) (h:Heap) (n:K4):R :=
 @Option.rec Ent (fun _=>R) (.fail "") (fun e=>@Ent.rec (fun _=>R) (fun entry body res=>entry args fun t=>Ra (body cf t h n) res) (fun p=>MW (p args h n)) (fun k entry body res=>MW (Ww k (fun hs=>entry args fun t=>Ra (body cf t hs n) res) args h n)) (fun f its rd=>YJ f its rd cf args h n) (fun p=>p args h n) e) o
def C7 (T:FC) (m:Nat):He :=
 @Nat.rec (fun _=>He) (Fe "") (fun _ ih f args h n=>TP f T fun o=>Sl ih o args h n) m
abbrev Ut (sm:SM) (t:Regs):S:=@List.rec (K2×SL) (fun _=>S) EE (fun x _ ih=>S.put x.2 ih (Bf x.1 t)) sm
theorem Pb {t:Regs}:∀ {sm:SM},Oy sm=true->∀ {p:K2} {s:SL},Cc p sm=some s->S.get s (Ut sm t)=Bf p t
 | [],_,p,s,h=>by cases h
 | x::l,hok,p,s,h=>by
  simp only [Oy,Bool.and_eq_true] at hok
  have e1:Ut (x::l) t=S.put x.2 (Ut l t) (Bf x.1 t):=rfl
  rw [e1]
  simp only [Cc] at h
  cases hb:K2.beq x.1 p with
  | true =>
   rw [hb] at h
   have h:some x.2=some s:=h
   cases h
   rw [S.get_put_same,K2.beq_iff.1 hb]
  | false =>
   rw [hb] at h
   have h:Cc p l=some s:=h
   have hne:x.2≠s:=fun e=>by
    have:=List.all_eq_true.1 hok.1 _ (Gq h)
    rw [←e] at this
    simp [SL.beq,O8.beq_self,O4.beq_self] at this
   rw [S.get_put_ne _ _ hne]
   exact Pb hok.2 h
abbrev Re (sm:SM) (r:ARes) (t:S) (h:Heap) (κ:V->R):R :=
 @ARes.rec (fun _=>R) (fun p=>Bk sm [] t (.t p) κ) (fun p m=>Bk sm [] t (.t p) fun v=>I3 v fun q off=>Pd q h fun cs _ _ =>
  @Option.rec Nat (fun _=>R) (FI cs off κ) (fun m=>BN cs off m fun y=>E5 y fun l=>κ (.agg l)) m) r
abbrev OV (sm:SM) (rs:List ARes) (t:S) (h:Heap):(List V->R)->R :=
 @List.rec ARes (fun _=>(List V->R)->R) (fun κ=>κ []) (fun r _ ih κ=>Re sm r t h fun v=>ih fun vs=>κ (v::vs)) rs
abbrev Nc (sm:SM) (rs:List ARes) (t:S) (h:Heap) (n:K4):R :=
 OV sm rs t h fun l=>@List.rec V (fun _=>R) (.rv (.tup []) h n) (fun v vs _=>@List.rec V (fun _=>R) (.rv v h n) (fun _ _ _=>.rv (.tup l) h n) vs) l
abbrev Xz (sm:SM) (a:AFn):Ent:=@AFn.rec (fun _=>Ent) (fun ps c rs=>.code (fun l κ=>N0 ps l JW fun t=>κ (Ut sm t)) (fun cf t h n=>Gw sm cf c r0 [] t h n) (fun t h n=>Nc sm rs t h n)) a
def ARes.reg (r:ARes):K2:=@ARes.rec (fun _=>K2) (fun p=>p) (fun p _=>p) r
def ZL (sm:SM) (a:AFn):Bool:=Oy sm&&(J2 sm a.code (fun _=>true) []&&a.rs.all fun r=>GC sm r.reg)
abbrev Vb (sm:SM) (o:Option AFn):De:=@Option.rec AFn (fun _=>De) none (fun a=>some (Xz sm a)) o
def Zt (sm:SM) (o:Option AFn):Bool:=@Option.rec AFn (fun _=>Bool) false (fun a=>ZL sm a) o
section
variable {P:Program} {ρ:Env} {B:Nat}
def Ai (P:Program) (f:FuncId) (e:Ent):Prop:=∃ sm:SM,Vb sm (JY P f)=some e∧Zt sm (JY P f)=true
theorem Ai.mk {f:FuncId} {e:Ent} (sm:SM) (h:Vb sm (JY P f)=some e) (k:Zt sm (JY P f)=true):Ai P f e:=⟨sm,h,k⟩
def Zg (P:Program) (f:FuncId) (e:Ent):Prop:=∃ k en bo re,e = .br k en bo re∧Ai P f (.code en bo re)
def Cq (P:Program) (ρ:Env) (f:FuncId) (e:Ent):Prop:=∃ its rd A,e = .ap f its rd∧ρ.ap f=some A∧Kq P f=some A∧RN P A=some rd ∧ ∀ g∈its,IU P g
def Rz (P:Program) (ρ:Env) (B:Nat) (f:FuncId) (p:HY):Prop :=
 ∀ args h n (Φ:R->Prop),(p args h n).sat Φ->∀ φ w (xs:Array Value),Gam ρ B h n φ w->Bs ρ φ args xs.toList →
  Jw P f xs w fun x w'=>∃ v h1 n1 φ',Φ (.rv v h1 n1)∧Fr h h1 φ φ' n n1 w w'∧Gam ρ B h1 n1 φ' w'∧AF ρ φ' v x
def LT (P:Program) (ρ:Env) (B:Nat) (f:FuncId) (e:Ent):Prop:=(Ai P f e∨Zg P f e)∨((∃ p,e = .prim p∧H6 P ρ B f p)∨(Cq P ρ f e ∨ ∃ p,e = .tree p∧Rz P ρ B f p))
def GI (P:Program) (ρ:Env) (B:Nat) (T:FC):Prop:=(∀ f e,JI (B8 f) T=some e->LT P ρ B f e) ∧ ∀ f A,ρ.ap f=some A->∃ e,JI (B8 f) T=some e∧Cq P ρ f e
theorem L6 {r:R} {Φ:R->Prop} (h:(MW r).sat Φ):∃ v h1 n1,r = .rv v h1 n1∧Φ (.rv v h1 n1):=by
 cases r with
 | rv v h1 n1=>exact ⟨v,h1,n1,rfl,h⟩
 | _=>exact h.elim
theorem Rp {sm:SM} {r:ARes} {t:Regs} {t':S} (ri:RI sm [] [] t t') (hk:GC sm r.reg=true) (hp:Heap) (κ:V->R):Re sm r t' hp κ=Jv r t hp κ:=by
 have kn:∀ p,GC sm p=true->It sm [] p=true:=fun p h=>by unfold It; rw [h,Bool.or_true]
 cases r with
 | tmp p=>show Bk sm [] t' (.t p) κ=GB p t κ; rw [ri.tell (kn p hk),Cp]
 | cel p m =>
  show Bk sm [] t' (.t p) _=GB p t _
  rw [ri.tell (kn p hk),Cp,G7]
theorem N4 {sm:SM} {t:Regs} {t':S} (ri:RI sm [] [] t t') {hp:Heap}:∀ {rs:List ARes} {κ:List V->R},(∀ r∈rs,GC sm r.reg=true)->OV sm rs t' hp κ=IR rs t hp κ
 | [],κ,_=>rfl
 | r::rs,κ,h=>by
  have e1:OV sm (r::rs) t' hp κ=Re sm r t' hp fun v=>OV sm rs t' hp fun vs=>κ (v::vs):=rfl
  have e2:IR (r::rs) t hp κ=Jv r t hp fun v=>IR rs t hp fun vs=>κ (v::vs):=rfl
  rw [e1,e2,Rp ri (h r (List.mem_cons_self ..))]
  congr 1; funext v
  exact N4 ri fun r hr=>h r (List.mem_cons_of_mem _ hr)
theorem RE {sm:SM} {t:Regs} {t':S} (ri:RI sm [] [] t t') {hp:Heap} {n:K4} {rs:List ARes} (h:∀ r∈rs,GC sm r.reg=true):Nc sm rs t' hp n=OO rs t hp n:=N4 ri h
def VU (res:S->Heap->K4->R) (Φ:R->Prop):R->Prop
 | .ok .nrm t h n=>(res t h n).sat Φ
 | .ok .ret t h n=>(res t h n).sat Φ
 | _=>False
theorem Jp {res:S->Heap->K4->R} {Φ:R->Prop}:∀ {r:R},(Ra r res).sat Φ->r.sat (VU res Φ)
 | .ok e t h n,hs=>by
  cases e with
  | nrm=>exact hs
  | ret=>exact hs
  | exit j=>exact hs.elim
 | .rv _ _ _,hs=>hs.elim
 | .fail _,hs=>hs.elim
 | .both a b,hs=>⟨Jp (r:=a) hs.1,Jp (r:=b) hs.2⟩
theorem SB {r:ARes} {t:Regs} {h:Heap} {κ:V->R} (hg:(Jv r t h κ).good):∃ v,Jv r t h κ=κ v:=by
 cases r with
 | tmp p=>exact ⟨_,Cp p t κ⟩
 | cel p m =>
  have e1:Jv (.cel p m) t h κ=I3 (Bf p t) fun q off=>Ie q h fun cs _ _ =>
    @Option.rec Nat (fun _=>R) (FI cs off κ) (fun m=>BN cs off m fun y=>E5 y fun l=>κ (.agg l)) m:=Cp p t _
  rw [e1] at hg
  obtain ⟨q,off,hv,e2⟩:=CP hg
  rw [e2] at hg
  obtain ⟨cs,sup,prev,hq,e3⟩:=CO hg
  rw [e3] at hg
  cases m with
  | none =>
   obtain ⟨v,_,e4⟩:=Gn (show R.good (FI cs off κ) from hg)
   exact ⟨v,e1.trans (e2.trans (e3.trans e4))⟩
  | some m =>
   obtain ⟨hle,y,hyl,hya,e4⟩:=Cl (show R.good (BN cs off m fun y=>E5 y fun l=>κ (.agg l)) from hg)
   obtain ⟨l,e5,_,_⟩:=Fo y fun l=>κ (.agg l)
   exact ⟨.agg l,e1.trans (e2.trans (e3.trans (Eq.trans e4 e5)))⟩
theorem PB:∀ {rs:List ARes} {t:Regs} {h:Heap} {κ:List V->R},(IR rs t h κ).good->∃ vs,IR rs t h κ=κ vs
 | [],t,h,κ,_=>⟨[],rfl⟩
 | r::rs,t,h,κ,hg=>by
  have hg:R.good (Jv r t h fun v=>IR rs t h fun vs=>κ (v::vs)):=hg
  obtain ⟨v,e1⟩:=SB hg
  rw [e1] at hg
  obtain ⟨vs,e2⟩:=PB hg
  exact ⟨v::vs,Eq.trans e1 e2⟩
theorem Sk {rs:List ARes} {t:Regs} {h:Heap} {n:K4} (hg:(OO rs t h n).good):∃ v,OO rs t h n = .rv v h n:=by
 obtain ⟨vs,e⟩:=PB (show R.good (IR rs t h _) from hg)
 have e:OO rs t h n=_:=e
 match vs,e with
 | [],e=>exact ⟨_,e⟩
 | [u],e=>exact ⟨_,e⟩
 | u::u'::us,e=>exact ⟨_,e⟩
theorem M2 (hρ:Bn ρ) (hm:P.follows .mixedOrders=true) {cf:CF} {cf2:He} (hct:Hh P ρ B cf) (hR:Hi P ρ B cf) (h2:∀ f,cf2 (B8 f)=cf f) {f:FuncId} {e:Ent} (he:Ai P f e) {args:List V} {h:Heap} {n:K4} {Φ:R->Prop}
  (hr:(Sl cf2 (some e) args h n).sat Φ) {φ:B0} {w:World} {xs:Array Value} (g:Gam ρ B h n φ w) (hxs:Bs ρ φ args xs.toList) :
  Jw P f xs w fun x w'=>∃ v h1 n1 φ',Φ (.rv v h1 n1)∧Fr h h1 φ φ' n n1 w w'∧Gam ρ B h1 n1 φ' w'∧AF ρ φ' v x:=by
 obtain ⟨sm,hd,hok⟩:=he
 cases hf:JY P f with
 | none=>rw [hf] at hd; cases hd
 | some a =>
  rw [hf] at hd hok
  obtain ⟨fn,c,ps,rs,hfn,hb,hps,hrs,hname,rfl⟩:=O6 hf
  have hd:some (Ent.code (fun l κ=>N0 ps l JW fun t=>κ (Ut sm t)) (fun cf t h n=>Gw sm cf (Bb P fn.ntmps c) r0 [] t h n) (fun t h n=>Nc sm rs t h n))=some e:=hd
  cases hd
  have hok:(Oy sm&&(J2 sm (Bb P fn.ntmps c) (fun _=>true) []&&rs.all fun r=>GC sm r.reg))=true:=hok
  rw [Bool.and_eq_true,Bool.and_eq_true] at hok
  obtain ⟨hsm,hok⟩:=hok
  have inj:∀ {p q s},Cc p sm=some s->Cc q sm=some s->p=q:=fun h h'=>N8 hsm h h'
  have hr:(N0 ps args JW (fun t=>Ra (Gw sm cf2 (Bb P fn.ntmps c) r0 [] (Ut sm t) h n) fun t h n=>Nc sm rs t h n)).sat Φ:=hr
  rw [MY] at hr
  obtain ⟨hlen,t0,e2,H0⟩:=L2 (k:=0) (fun i s hi=>by
   obtain ⟨hi',hi2⟩:=List.getElem?_eq_some_iff.1 hi
   simp at hi2; omega) hps (R.sat_good hr)
  rw [e2] at hr
  simp only [List.length_range] at hlen
  have hxl:xs.size=args.length:=by have:=B7 hxs; simpa using this
  have hxN:xs.size≤fn.ntmps:=by
   rcases Nat.eq_zero_or_pos xs.size with h0 | h0
   ·omega
   ·have:=KN hps (xs.size - 1) (List.mem_range.2 (by omega)); omega
  have hT:TR ρ fn.ntmps φ t0 { tmps:=xs++Array.replicate (fn.ntmps - xs.size) undef,defers:=[] }:={
   size:=by simp; omega
   defers:=rfl
   at_:=fun s p hs hp=>by
    rw [H0 s p hp,if_pos (Nat.zero_le _),Nat.sub_zero,MR]
    show AF ρ φ _ ((xs++Array.replicate (fn.ntmps - xs.size) undef).getD s undef)
    rw [Array.getD_eq_getD_getElem?]
    by_cases hsx:s<xs.size
    ·rw [Array.getElem?_append_left hsx]
     have hsa:s<args.length:=by omega
     rw [List.getElem?_eq_getElem hsa]
     obtain ⟨x,hx,hrx⟩:=(Cf.1 hxs).2 s _ (List.getElem?_eq_getElem hsa)
     rw [Array.getElem?_toList] at hx
     rw [hx]; exact hrx
    ·rw [Array.getElem?_append_right (by omega),Array.getElem?_replicate,if_pos (by omega),List.getElem?_eq_none (by omega)]
     exact Ek }
  have hx:=Jp hr
  have hOK:=(Uj (N:=fn.ntmps) (sm:=sm) hρ hm hct hR h2 c).join hok.1 (RI.start inj fun p s hs=>Pb hsm hs) hx
  intro o a K Q hK
  have hcf':(callFunc f xs).run P w = .ok (.enter f xs) w:=by
   have hname':fn.name ≠ "runtime.NumGoroutine":=by simpa using hname
   simp [callFunc,hfn,hname',hb]
  rw [hcf']
  refine calls_of_wp hfn hb (hOK φ _ w hT g _ fun e t1 h2' n2 hres φ' a' w' tf f1 g1 T1 hk=>?_)
  have fin:(Nc sm rs t1 h2' n2).sat Φ->∃ X,(results fn a'.tmps).run P w' = .ok X w'∧K (a.put o.dst X) w':=fun hres=>by
   rw [RE (RI.start inj hk) fun r hr=>List.all_eq_true.1 hok.2 r hr] at hres
   obtain ⟨v,hv⟩:=Sk (R.sat_good hres)
   obtain ⟨_,_,Hres⟩:=Qz (ρ:=ρ) (B:=B) hrs hv
   rw [hv] at hres
   obtain ⟨X,hX,hrX⟩:=Hres φ' a' w' T1 g1
   exact ⟨X,hX,hK X w' ⟨v,h2',n2,φ',hres,f1,g1,hrX⟩⟩
  cases e with
  | nrm=>obtain ⟨X,hX,hKX⟩:=fin hres; exact ⟨T1.defers,X,hX,hKX⟩
  | exit id=>exact hres.elim
  | ret=>obtain ⟨X,hX,hKX⟩:=fin hres; exact ⟨T1.defers,X,hX,hKX⟩
theorem Qd (hρ:Bn ρ) (hm:P.follows .mixedOrders=true) {T:FC} (hT:GI P ρ B T):∀ m,Hh P ρ B (fun f=>C7 T m (B8 f))∧Hi P ρ B (fun f=>C7 T m (B8 f)):=by
 intro m
 induction m with
 | zero=>exact ⟨fun f args h n Φ hr=>hr.elim,fun f A fn hA box x h n Φ hr=>hr.elim⟩
 | succ m ih =>
  obtain ⟨hct,hR⟩:=ih
  have e1:∀ f args h n,C7 T (m+1) (B8 f) args h n=Sl (C7 T m) (JI (B8 f) T) args h n:=fun f args h n=>Te (B8 f) T fun o=>Sl (C7 T m) o args h n
  refine ⟨fun f args h n Φ hr φ w xs g hxs=>?_,fun f A fn hA box x h n Φ hr φ w tmps X l D g hrec unc hsz hbox hX=>?_⟩
  ·have hr:(C7 T (m+1) (B8 f) args h n).sat Φ:=hr
   rw [e1] at hr
   cases ho:JI (B8 f) T with
   | none=>rw [ho] at hr; exact hr.elim
   | some e =>
    rw [ho] at hr
    rcases hT.1 f e ho with (he | ⟨k,en,bo,re,rfl,he⟩) | (⟨p,rfl,hp⟩ | (⟨its,rd,A,rfl,hA,h1,h2,h3⟩ | ⟨p,rfl,hp⟩))
    ·exact M2 hρ hm hct hR (fun _=>rfl) he hr g hxs
    ·obtain ⟨v,h1,n1,hr,hΦ⟩:=L6 (show (MW (Ww k (fun hs=>en args fun t=>Ra (bo (C7 T m) t hs n) re) args h n)).sat Φ from hr)
     intro o a K Q hK
     exact Uf hr g hxs (fun hs Φ hsat gs=>M2 hρ hm hct hR (fun _=>rfl) he (h:=hs) hsat gs hxs) o a K Q fun x w' ⟨φ',f1,g1,r1⟩=>hK x w' ⟨v,h1,n1,φ',hΦ,f1,g1,r1⟩
    ·obtain ⟨v,h1,n1,hr,hΦ⟩:=L6 (show (MW (p args h n)).sat Φ from hr)
     intro o a K Q hK
     exact hp args h n v h1 n1 hr φ w xs g hxs o a K Q fun x w' ⟨φ',f1,g1,r1⟩=>hK x w' ⟨v,h1,n1,φ',hΦ,f1,g1,r1⟩
    ·have hr:(YJ f its rd (C7 T m) args h n).sat Φ:=hr
     unfold YJ at hr
     obtain ⟨v,l,hl,q1⟩:=EF (R.sat_good hr)
     rw [q1] at hr
     subst hl
     by_cases hv:v = .oth .no
     ·subst hv
      obtain ⟨y,ys,_,hy,_⟩:=AD.1 hxs
      simp only [AF] at hy
     ·have e2:∀ A C:R,Ts v A C=C:=fun A C=>by
       cases v with
       | oth o=>cases o with
        | no=>exact absurd rfl hv
        | _=>rfl
       | _=>rfl
      rw [e2] at hr
      exact UE hA h1 h3 hct (fun _=>rfl) hr g hxs
    ·exact hp args h n Φ hr φ w xs g hxs
  ·obtain ⟨e,ho,its,rd,A',rfl,hA',h1,h2,h3⟩:=hT.2 f A hA
   rw [hA] at hA'; cases hA'
   have hr:(C7 T (m+1) (B8 f) [.oth .no,.ptr box 0,x] h n).sat Φ:=hr
   rw [e1,ho] at hr
   have hr:(rd (C7 T m) (.ptr box 0) x h n).sat Φ:=hr
   exact US hρ hct.ok (fun _=>rfl) h2 hr g hrec unc hsz hbox hX
theorem N6 (hρ:Bn ρ) (hm:P.follows .mixedOrders=true) {T:FC} (hT:GI P ρ B T) (m:Nat):DK P ρ B fun f=>C7 T m (B8 f):=(Qd hρ hm hT m).1.ok
end
end Go.Ev

namespace Go.Ev
open Go.RowKit
set_option linter.unusedVariables false
abbrev AP (w:Bool) (v:V) (h:Heap) (n:K4) (F:KV->R) (κ:KV):R:=gd w v F κ h n
abbrev Ac (v:V):R:=.rv v AM ⟨.d0,.d0,.d0,.d0⟩
abbrev Zz (b:K4) (j:D) (h:Heap) (F:K4->R) (κ:KV):R:=b.at j fun r=>Br r h fun x=>GH x (B1 (F r) κ)
abbrev NO (b:K4) (j:D) (h:Heap) (F:K4->R) (κ:V->Heap->R):R:=Zz b j h F fun v h _=>κ v h
abbrev HU (b:K4) (j:D) (h:Heap) (κ:R):R:=b.at j fun r=>Br r h fun x=>GH x κ
abbrev rnX (b:K4) (j:D) (h:Heap) (F:Heap->R) (κ:V->R):R:=b.at j fun r=>Br r h fun x=>U9 x fun ob=>BP r AM (some ob) fun hx=>Ae (F hx) κ
abbrev FR (m:Nat) (v:V) (h:Heap) (κ:V->R):R:=I3 v fun q off=>Pd q h fun cs _ _=>BN cs off m fun y=>E5 y fun l=>κ (.agg l)
abbrev U:V:=C8
abbrev Q0:SQ:=.mk U U U U
abbrev g0 (t:S) (k:V->R):R:=@S.rec (fun _=>R) (fun c0 c1 c2 c3 c4 c5 c6 c7=>@SQ.rec (fun _=>R) (fun d0 d1 d2 d3=>k d0) c0) t
abbrev w0 (t:S) (v:V) (k:S->R):R:=@S.rec (fun _=>R) (fun c0 c1 c2 c3 c4 c5 c6 c7=>@SQ.rec (fun _=>R) (fun d0 d1 d2 d3=>k (.mk (.mk v d1 d2 d3) c1 c2 c3 c4 c5 c6 c7)) c0) t
abbrev g1 (t:S) (k:V->R):R:=@S.rec (fun _=>R) (fun c0 c1 c2 c3 c4 c5 c6 c7=>@SQ.rec (fun _=>R) (fun d0 d1 d2 d3=>k d1) c0) t
abbrev w1 (t:S) (v:V) (k:S->R):R:=@S.rec (fun _=>R) (fun c0 c1 c2 c3 c4 c5 c6 c7=>@SQ.rec (fun _=>R) (fun d0 d1 d2 d3=>k (.mk (.mk d0 v d2 d3) c1 c2 c3 c4 c5 c6 c7)) c0) t
abbrev g2 (t:S) (k:V->R):R:=@S.rec (fun _=>R) (fun c0 c1 c2 c3 c4 c5 c6 c7=>@SQ.rec (fun _=>R) (fun d0 d1 d2 d3=>k d2) c0) t
abbrev w2 (t:S) (v:V) (k:S->R):R:=@S.rec (fun _=>R) (fun c0 c1 c2 c3 c4 c5 c6 c7=>@SQ.rec (fun _=>R) (fun d0 d1 d2 d3=>k (.mk (.mk d0 d1 v d3) c1 c2 c3 c4 c5 c6 c7)) c0) t
abbrev g3 (t:S) (k:V->R):R:=@S.rec (fun _=>R) (fun c0 c1 c2 c3 c4 c5 c6 c7=>@SQ.rec (fun _=>R) (fun d0 d1 d2 d3=>k d3) c0) t
abbrev w3 (t:S) (v:V) (k:S->R):R:=@S.rec (fun _=>R) (fun c0 c1 c2 c3 c4 c5 c6 c7=>@SQ.rec (fun _=>R) (fun d0 d1 d2 d3=>k (.mk (.mk d0 d1 d2 v) c1 c2 c3 c4 c5 c6 c7)) c0) t
abbrev g4 (t:S) (k:V->R):R:=@S.rec (fun _=>R) (fun c0 c1 c2 c3 c4 c5 c6 c7=>@SQ.rec (fun _=>R) (fun d0 d1 d2 d3=>k d0) c1) t
abbrev w4 (t:S) (v:V) (k:S->R):R:=@S.rec (fun _=>R) (fun c0 c1 c2 c3 c4 c5 c6 c7=>@SQ.rec (fun _=>R) (fun d0 d1 d2 d3=>k (.mk c0 (.mk v d1 d2 d3) c2 c3 c4 c5 c6 c7)) c1) t
abbrev g5 (t:S) (k:V->R):R:=@S.rec (fun _=>R) (fun c0 c1 c2 c3 c4 c5 c6 c7=>@SQ.rec (fun _=>R) (fun d0 d1 d2 d3=>k d1) c1) t
abbrev w5 (t:S) (v:V) (k:S->R):R:=@S.rec (fun _=>R) (fun c0 c1 c2 c3 c4 c5 c6 c7=>@SQ.rec (fun _=>R) (fun d0 d1 d2 d3=>k (.mk c0 (.mk d0 v d2 d3) c2 c3 c4 c5 c6 c7)) c1) t
abbrev g6 (t:S) (k:V->R):R:=@S.rec (fun _=>R) (fun c0 c1 c2 c3 c4 c5 c6 c7=>@SQ.rec (fun _=>R) (fun d0 d1 d2 d3=>k d2) c1) t
abbrev w6 (t:S) (v:V) (k:S->R):R:=@S.rec (fun _=>R) (fun c0 c1 c2 c3 c4 c5 c6 c7=>@SQ.rec (fun _=>R) (fun d0 d1 d2 d3=>k (.mk c0 (.mk d0 d1 v d3) c2 c3 c4 c5 c6 c7)) c1) t
abbrev g7 (t:S) (k:V->R):R:=@S.rec (fun _=>R) (fun c0 c1 c2 c3 c4 c5 c6 c7=>@SQ.rec (fun _=>R) (fun d0 d1 d2 d3=>k d3) c1) t
abbrev w7 (t:S) (v:V) (k:S->R):R:=@S.rec (fun _=>R) (fun c0 c1 c2 c3 c4 c5 c6 c7=>@SQ.rec (fun _=>R) (fun d0 d1 d2 d3=>k (.mk c0 (.mk d0 d1 d2 v) c2 c3 c4 c5 c6 c7)) c1) t
abbrev g8 (t:S) (k:V->R):R:=@S.rec (fun _=>R) (fun c0 c1 c2 c3 c4 c5 c6 c7=>@SQ.rec (fun _=>R) (fun d0 d1 d2 d3=>k d0) c2) t
abbrev w8 (t:S) (v:V) (k:S->R):R:=@S.rec (fun _=>R) (fun c0 c1 c2 c3 c4 c5 c6 c7=>@SQ.rec (fun _=>R) (fun d0 d1 d2 d3=>k (.mk c0 c1 (.mk v d1 d2 d3) c3 c4 c5 c6 c7)) c2) t
abbrev g9 (t:S) (k:V->R):R:=@S.rec (fun _=>R) (fun c0 c1 c2 c3 c4 c5 c6 c7=>@SQ.rec (fun _=>R) (fun d0 d1 d2 d3=>k d1) c2) t
abbrev w9 (t:S) (v:V) (k:S->R):R:=@S.rec (fun _=>R) (fun c0 c1 c2 c3 c4 c5 c6 c7=>@SQ.rec (fun _=>R) (fun d0 d1 d2 d3=>k (.mk c0 c1 (.mk d0 v d2 d3) c3 c4 c5 c6 c7)) c2) t
abbrev QF (t:S) (k:V->R):R:=@S.rec (fun _=>R) (fun c0 c1 c2 c3 c4 c5 c6 c7=>@SQ.rec (fun _=>R) (fun d0 d1 d2 d3=>k d2) c2) t
abbrev QG (t:S) (v:V) (k:S->R):R:=@S.rec (fun _=>R) (fun c0 c1 c2 c3 c4 c5 c6 c7=>@SQ.rec (fun _=>R) (fun d0 d1 d2 d3=>k (.mk c0 c1 (.mk d0 d1 v d3) c3 c4 c5 c6 c7)) c2) t
abbrev Ss (t:S) (k:V->R):R:=@S.rec (fun _=>R) (fun c0 c1 c2 c3 c4 c5 c6 c7=>@SQ.rec (fun _=>R) (fun d0 d1 d2 d3=>k d3) c2) t
abbrev Su (t:S) (v:V) (k:S->R):R:=@S.rec (fun _=>R) (fun c0 c1 c2 c3 c4 c5 c6 c7=>@SQ.rec (fun _=>R) (fun d0 d1 d2 d3=>k (.mk c0 c1 (.mk d0 d1 d2 v) c3 c4 c5 c6 c7)) c2) t
abbrev SX (t:S) (k:V->R):R:=@S.rec (fun _=>R) (fun c0 c1 c2 c3 c4 c5 c6 c7=>@SQ.rec (fun _=>R) (fun d0 d1 d2 d3=>k d0) c3) t
abbrev T0 (t:S) (v:V) (k:S->R):R:=@S.rec (fun _=>R) (fun c0 c1 c2 c3 c4 c5 c6 c7=>@SQ.rec (fun _=>R) (fun d0 d1 d2 d3=>k (.mk c0 c1 c2 (.mk v d1 d2 d3) c4 c5 c6 c7)) c3) t
abbrev Ux (t:S) (k:V->R):R:=@S.rec (fun _=>R) (fun c0 c1 c2 c3 c4 c5 c6 c7=>@SQ.rec (fun _=>R) (fun d0 d1 d2 d3=>k d1) c3) t
abbrev Ur (t:S) (v:V) (k:S->R):R:=@S.rec (fun _=>R) (fun c0 c1 c2 c3 c4 c5 c6 c7=>@SQ.rec (fun _=>R) (fun d0 d1 d2 d3=>k (.mk c0 c1 c2 (.mk d0 v d2 d3) c4 c5 c6 c7)) c3) t
abbrev Wk (t:S) (k:V->R):R:=@S.rec (fun _=>R) (fun c0 c1 c2 c3 c4 c5 c6 c7=>@SQ.rec (fun _=>R) (fun d0 d1 d2 d3=>k d2) c3) t
abbrev XK (t:S) (v:V) (k:S->R):R:=@S.rec (fun _=>R) (fun c0 c1 c2 c3 c4 c5 c6 c7=>@SQ.rec (fun _=>R) (fun d0 d1 d2 d3=>k (.mk c0 c1 c2 (.mk d0 d1 v d3) c4 c5 c6 c7)) c3) t
abbrev Uu (t:S) (k:V->R):R:=@S.rec (fun _=>R) (fun c0 c1 c2 c3 c4 c5 c6 c7=>@SQ.rec (fun _=>R) (fun d0 d1 d2 d3=>k d3) c3) t
abbrev Uy (t:S) (v:V) (k:S->R):R:=@S.rec (fun _=>R) (fun c0 c1 c2 c3 c4 c5 c6 c7=>@SQ.rec (fun _=>R) (fun d0 d1 d2 d3=>k (.mk c0 c1 c2 (.mk d0 d1 d2 v) c4 c5 c6 c7)) c3) t
abbrev Zv (t:S) (k:V->R):R:=@S.rec (fun _=>R) (fun c0 c1 c2 c3 c4 c5 c6 c7=>@SQ.rec (fun _=>R) (fun d0 d1 d2 d3=>k d0) c4) t
abbrev Zy (t:S) (v:V) (k:S->R):R:=@S.rec (fun _=>R) (fun c0 c1 c2 c3 c4 c5 c6 c7=>@SQ.rec (fun _=>R) (fun d0 d1 d2 d3=>k (.mk c0 c1 c2 c3 (.mk v d1 d2 d3) c5 c6 c7)) c4) t
abbrev g17 (t:S) (k:V->R):R:=@S.rec (fun _=>R) (fun c0 c1 c2 c3 c4 c5 c6 c7=>@SQ.rec (fun _=>R) (fun d0 d1 d2 d3=>k d1) c4) t
abbrev Zx (t:S) (v:V) (k:S->R):R:=@S.rec (fun _=>R) (fun c0 c1 c2 c3 c4 c5 c6 c7=>@SQ.rec (fun _=>R) (fun d0 d1 d2 d3=>k (.mk c0 c1 c2 c3 (.mk d0 v d2 d3) c5 c6 c7)) c4) t
abbrev Wo (t:S) (k:V->R):R:=@S.rec (fun _=>R) (fun c0 c1 c2 c3 c4 c5 c6 c7=>@SQ.rec (fun _=>R) (fun d0 d1 d2 d3=>k d2) c4) t
abbrev Wm (t:S) (v:V) (k:S->R):R:=@S.rec (fun _=>R) (fun c0 c1 c2 c3 c4 c5 c6 c7=>@SQ.rec (fun _=>R) (fun d0 d1 d2 d3=>k (.mk c0 c1 c2 c3 (.mk d0 d1 v d3) c5 c6 c7)) c4) t
abbrev ZO (t:S) (k:V->R):R:=@S.rec (fun _=>R) (fun c0 c1 c2 c3 c4 c5 c6 c7=>@SQ.rec (fun _=>R) (fun d0 d1 d2 d3=>k d3) c4) t
abbrev ZI (t:S) (v:V) (k:S->R):R:=@S.rec (fun _=>R) (fun c0 c1 c2 c3 c4 c5 c6 c7=>@SQ.rec (fun _=>R) (fun d0 d1 d2 d3=>k (.mk c0 c1 c2 c3 (.mk d0 d1 d2 v) c5 c6 c7)) c4) t
abbrev g20 (t:S) (k:V->R):R:=@S.rec (fun _=>R) (fun c0 c1 c2 c3 c4 c5 c6 c7=>@SQ.rec (fun _=>R) (fun d0 d1 d2 d3=>k d0) c5) t
abbrev w20 (t:S) (v:V) (k:S->R):R:=@S.rec (fun _=>R) (fun c0 c1 c2 c3 c4 c5 c6 c7=>@SQ.rec (fun _=>R) (fun d0 d1 d2 d3=>k (.mk c0 c1 c2 c3 c4 (.mk v d1 d2 d3) c6 c7)) c5) t
abbrev g21 (t:S) (k:V->R):R:=@S.rec (fun _=>R) (fun c0 c1 c2 c3 c4 c5 c6 c7=>@SQ.rec (fun _=>R) (fun d0 d1 d2 d3=>k d1) c5) t
abbrev ZQ (t:S) (v:V) (k:S->R):R:=@S.rec (fun _=>R) (fun c0 c1 c2 c3 c4 c5 c6 c7=>@SQ.rec (fun _=>R) (fun d0 d1 d2 d3=>k (.mk c0 c1 c2 c3 c4 (.mk d0 v d2 d3) c6 c7)) c5) t
abbrev Zw (t:S) (k:V->R):R:=@S.rec (fun _=>R) (fun c0 c1 c2 c3 c4 c5 c6 c7=>@SQ.rec (fun _=>R) (fun d0 d1 d2 d3=>k d2) c5) t
abbrev Zu (t:S) (v:V) (k:S->R):R:=@S.rec (fun _=>R) (fun c0 c1 c2 c3 c4 c5 c6 c7=>@SQ.rec (fun _=>R) (fun d0 d1 d2 d3=>k (.mk c0 c1 c2 c3 c4 (.mk d0 d1 v d3) c6 c7)) c5) t
section
variable {P:Program} {ρ:Env} {B:Nat}
def Ab (P:Program) (ρ:Env) (B:Nat) (f:FuncId) (o:De):Prop:=∀ e,o=some e->LT P ρ B f e
theorem Ab.no {f:FuncId}:Ab P ρ B f none:=fun e h=>by cases h
theorem Ab.fn {f:FuncId} {e:Ent} (h:Ai P f e):Ab P ρ B f (some e):=fun e' h'=>by cases h'; exact .inl (.inl h)
theorem Ab.br {f:FuncId} {k:Nat} {en:List V->(S->R)->R} {bo:He->S->Heap->K4->R} {re:S->Heap->K4->R} (h:Ai P f (.code en bo re)):Ab P ρ B f (some (.br k en bo re)):=fun e' h'=>by cases h'; exact .inl (.inr ⟨k,en,bo,re,rfl,h⟩)
theorem Ab.brX {f:FuncId} {e:Ent} {k:Nat} (h:Ai P f e) (he:∃ en bo re,e = .code en bo re):Ab P ρ B f (some (e.toBr k)):=by
 obtain ⟨en,bo,re,rfl⟩:=he
 exact Ab.br h
theorem Ab.pr {f:FuncId} {p:HY} (h:H6 P ρ B f p):Ab P ρ B f (some (.prim p)):=fun e' h'=>by cases h'; exact .inr (.inl ⟨p,rfl,h⟩)
def Av (s:String):HY:=fun _ _ _=>.fail s
theorem Ab.noP {f:FuncId} (s:String):Ab P ρ B f (some (.prim (Av s))):=Ab.pr fun args h n v h1 n1 hx=>by cases hx
theorem Ab.ap {f:FuncId} {its:List Nat} {rd:Rd} {A:ApC} (hA:ρ.ap f=some A) (h1:Kq P f=some A) (h2:RN P A=some rd) (h3:∀ g∈its,IU P g):Ab P ρ B f (some (.ap f its rd)):=fun e' h'=>by cases h'; exact .inr (.inr (.inl ⟨its,rd,A,rfl,hA,h1,h2,h3⟩))
theorem Ab.tr {f:FuncId} {p:HY} (h:Rz P ρ B f p):Ab P ρ B f (some (.tree p)):=fun e' h'=>by cases h'; exact .inr (.inr (.inr ⟨p,rfl,h⟩))
def BV (P:Program) (ρ:Env) (B:Nat) (base:Nat) (x:FA):Prop:=∀ d,Ab P ρ B (base+d.toN) (FA.sel d x)
def IZ (P:Program) (ρ:Env) (B:Nat) (base:Nat) (x:FB):Prop:=∀ d,BV P ρ B (base+16*d.toN) (FB.sel d x)
theorem AG {base:Nat} {c0 c1 c2 c3 c4 c5 c6 c7 c8 c9 ca cb cc cd ce cf:De} (h0:Ab P ρ B (base+0) c0) (h1:Ab P ρ B (base+1) c1) (h2:Ab P ρ B (base+2) c2) (h3:Ab P ρ B (base+3) c3) (h4:Ab P ρ B (base+4) c4) (h5:Ab P ρ B (base+5) c5) (h6:Ab P ρ B (base+6) c6) (h7:Ab P ρ B (base+7) c7) (h8:Ab P ρ B (base+8) c8) (h9:Ab P ρ B (base+9) c9) (h10:Ab P ρ B (base+10) ca) (h11:Ab P ρ B (base+11) cb) (h12:Ab P ρ B (base+12) cc) (h13:Ab P ρ B (base+13) cd) (h14:Ab P ρ B (base+14) ce) (h15:Ab P ρ B (base+15) cf):BV P ρ B base (.mk c0 c1 c2 c3 c4 c5 c6 c7 c8 c9 ca cb cc cd ce cf):=fun d=>by
 cases d
 ·exact h0
 ·exact h1
 ·exact h2
 ·exact h3
 ·exact h4
 ·exact h5
 ·exact h6
 ·exact h7
 ·exact h8
 ·exact h9
 ·exact h10
 ·exact h11
 ·exact h12
 ·exact h13
 ·exact h14
 ·exact h15
theorem Ia {base:Nat} {c0 c1 c2 c3 c4 c5 c6 c7 c8 c9 ca cb cc cd ce cf:FA} (h0:BV P ρ B (base+16*0) c0) (h1:BV P ρ B (base+16*1) c1) (h2:BV P ρ B (base+16*2) c2) (h3:BV P ρ B (base+16*3) c3) (h4:BV P ρ B (base+16*4) c4) (h5:BV P ρ B (base+16*5) c5) (h6:BV P ρ B (base+16*6) c6) (h7:BV P ρ B (base+16*7) c7) (h8:BV P ρ B (base+16*8) c8) (h9:BV P ρ B (base+16*9) c9) (h10:BV P ρ B (base+16*10) ca) (h11:BV P ρ B (base+16*11) cb) (h12:BV P ρ B (base+16*12) cc) (h13:BV P ρ B (base+16*13) cd) (h14:BV P ρ B (base+16*14) ce) (h15:BV P ρ B (base+16*15) cf):IZ P ρ B base (.mk c0 c1 c2 c3 c4 c5 c6 c7 c8 c9 ca cb cc cd ce cf):=fun d=>by
 cases d
 ·exact h0
 ·exact h1
 ·exact h2
 ·exact h3
 ·exact h4
 ·exact h5
 ·exact h6
 ·exact h7
 ·exact h8
 ·exact h9
 ·exact h10
 ·exact h11
 ·exact h12
 ·exact h13
 ·exact h14
 ·exact h15
def FF:FA:=.mk none none none none none none none none none none none none none none none none
def GO:FB:=.mk FF FF FF FF FF FF FF FF FF FF FF FF FF FF FF FF
theorem Pa (d:D):FA.sel d FF=none:=by cases d <;> rfl
theorem Pr (d:D):FB.sel d GO=FF:=by cases d <;> rfl
theorem C6 {base:Nat}:BV P ρ B base FF:=fun d=>by rw [Pa]; exact Ab.no
theorem BQ {base:Nat}:IZ P ρ B base GO:=fun d=>by rw [Pr]; exact C6
theorem ofN_lt {x:Nat} {d:D} (h:D.ofN x=d) (hd:d ≠ .d15):x=d.toN:=by
 rcases Nat.lt_or_ge x 15 with hx | hx
 ·rw [←h,D.toN_ofN x (by omega)]
 ·exfalso
  obtain ⟨y,rfl⟩:∃ y,x=y+15:=⟨x - 15,by omega⟩
  exact hd h.symm
theorem QQ {c0 c1 c2 c3 c4 c5 c6 c7 c8 c9 ca cb cc cd ce:FB} (h0:IZ P ρ B (256*0) c0) (h1:IZ P ρ B (256*1) c1) (h2:IZ P ρ B (256*2) c2) (h3:IZ P ρ B (256*3) c3) (h4:IZ P ρ B (256*4) c4) (h5:IZ P ρ B (256*5) c5) (h6:IZ P ρ B (256*6) c6) (h7:IZ P ρ B (256*7) c7) (h8:IZ P ρ B (256*8) c8) (h9:IZ P ρ B (256*9) c9) (h10:IZ P ρ B (256*10) ca) (h11:IZ P ρ B (256*11) cb) (h12:IZ P ρ B (256*12) cc) (h13:IZ P ρ B (256*13) cd) (h14:IZ P ρ B (256*14) ce):∀ f e,JI (B8 f) (.mk c0 c1 c2 c3 c4 c5 c6 c7 c8 c9 ca cb cc cd ce GO)=some e->LT P ρ B f e:=fun f e h=>by
 have hc:(D.ofN (f % 16)).toN=f % 16:=D.toN_ofN _ (by omega)
 have hb:(D.ofN (f / 16 % 16)).toN=f / 16 % 16:=D.toN_ofN _ (by omega)
 have key:∀ x:FB,IZ P ρ B (256*(f / 256)) x->FA.sel (D.ofN (f % 16)) (FB.sel (D.ofN (f / 16 % 16)) x)=some e->LT P ρ B f e:=fun x hx hs=>by
  have:=hx (D.ofN (f / 16 % 16)) (D.ofN (f % 16)) e hs
  rw [hc,hb] at this
  have e1:256*(f / 256)+16*(f / 16 % 16)+f % 16=f:=by omega
  rw [e1] at this; exact this
 have h:FA.sel (D.ofN (f % 16)) (FB.sel (D.ofN (f / 16 % 16)) (FC.sel (D.ofN (f / 256)) (.mk c0 c1 c2 c3 c4 c5 c6 c7 c8 c9 ca cb cc cd ce GO)))=some e:=h
 generalize hd:D.ofN (f / 256)=d at h
 cases d
 ·have:=ofN_lt hd (by intro h; cases h); rw [show D.toN .d0=0 from rfl] at this; exact key c0 (by rw [this]; exact h0) h
 ·have:=ofN_lt hd (by intro h; cases h); rw [show D.toN .d1=1 from rfl] at this; exact key c1 (by rw [this]; exact h1) h
 ·have:=ofN_lt hd (by intro h; cases h); rw [show D.toN .d2=2 from rfl] at this; exact key c2 (by rw [this]; exact h2) h
 ·have:=ofN_lt hd (by intro h; cases h); rw [show D.toN .d3=3 from rfl] at this; exact key c3 (by rw [this]; exact h3) h
 ·have:=ofN_lt hd (by intro h; cases h); rw [show D.toN .d4=4 from rfl] at this; exact key c4 (by rw [this]; exact h4) h
 ·have:=ofN_lt hd (by intro h; cases h); rw [show D.toN .d5=5 from rfl] at this; exact key c5 (by rw [this]; exact h5) h
 ·have:=ofN_lt hd (by intro h; cases h); rw [show D.toN .d6=6 from rfl] at this; exact key c6 (by rw [this]; exact h6) h
 ·have:=ofN_lt hd (by intro h; cases h); rw [show D.toN .d7=7 from rfl] at this; exact key c7 (by rw [this]; exact h7) h
 ·have:=ofN_lt hd (by intro h; cases h); rw [show D.toN .d8=8 from rfl] at this; exact key c8 (by rw [this]; exact h8) h
 ·have:=ofN_lt hd (by intro h; cases h); rw [show D.toN .d9=9 from rfl] at this; exact key c9 (by rw [this]; exact h9) h
 ·have:=ofN_lt hd (by intro h; cases h); rw [show D.toN .d10=10 from rfl] at this; exact key ca (by rw [this]; exact h10) h
 ·have:=ofN_lt hd (by intro h; cases h); rw [show D.toN .d11=11 from rfl] at this; exact key cb (by rw [this]; exact h11) h
 ·have:=ofN_lt hd (by intro h; cases h); rw [show D.toN .d12=12 from rfl] at this; exact key cc (by rw [this]; exact h12) h
 ·have:=ofN_lt hd (by intro h; cases h); rw [show D.toN .d13=13 from rfl] at this; exact key cd (by rw [this]; exact h13) h
 ·have:=ofN_lt hd (by intro h; cases h); rw [show D.toN .d14=14 from rfl] at this; exact key ce (by rw [this]; exact h14) h
 ·have h:FA.sel (D.ofN (f % 16)) (FB.sel (D.ofN (f / 16 % 16)) GO)=some e:=h
  rw [Pr,Pa] at h; cases h
def Hq (P:Program) (fs:List Nat):Env:={ v:=fun _=>.bool true,ap:=fun f=>@Bool.rec (fun _=>Option ApC) none (Kq P f) (fs.contains f) }
def Ml (P:Program) (g:FuncId):Bool:=match P.funcs[g]? with
 | some fn=>fn.body.isSome && !(fn.name == "runtime.NumGoroutine")
 | none=>false
theorem OL {g:FuncId} (h:Ml P g=true):IU P g:=by
 unfold Ml at h
 split at h
 ·rename_i fn hfn
  simp only [Bool.and_eq_true,Bool.not_eq_true'] at h
  obtain ⟨c,hc⟩:=Option.isSome_iff_exists.1 h.1
  exact ⟨fn,c,hfn,hc,h.2⟩
 ·cases h
def Vw (P:Program) (f:FuncId):Option Rd:=(Kq P f).bind (RN P)
theorem Cq.mk {fs:List Nat} {f:FuncId} {its:List Nat} {rd:Rd} (hf:fs.contains f=true) (h:Vw P f=some rd) (hb:its.all (Ml P)=true):Cq P (Hq P fs) f (.ap f its rd):=by
 unfold Vw at h
 cases hA:Kq P f with
 | none=>rw [hA] at h; cases h
 | some A =>
  rw [hA] at h
  exact ⟨its,rd,A,rfl,by show @Bool.rec (fun _=>Option ApC) none (Kq P f) (fs.contains f)=_; rw [hf]; exact hA,hA,h,fun g hg=>OL (List.all_eq_true.1 hb g hg)⟩
theorem Ab.apE {f:FuncId} {e:Ent} (h:Cq P ρ f e):Ab P ρ B f (some e):=fun e' h'=>by cases h'; exact .inr (.inr (.inl h))
theorem GI.mk {fs:List Nat} {T:FC} (h:∀ f e,JI (B8 f) T=some e->LT P (Hq P fs) B f e) (ha:∀ f∈fs,∃ e,JI (B8 f) T=some e∧Cq P (Hq P fs) f e):GI P (Hq P fs) B T:=by
 refine ⟨h,fun f A hA=>?_⟩
 have hA:@Bool.rec (fun _=>Option ApC) none (Kq P f) (fs.contains f)=some A:=hA
 cases hc:fs.contains f with
 | false=>rw [hc] at hA; cases hA
 | true=>exact ha f (List.contains_iff_mem.1 hc)
theorem S8 {Q:Nat->Prop}:∀ f∈([]:List Nat),Q f:=fun f h=>by cases h
theorem Gs {Q:Nat->Prop} {x:Nat} {l:List Nat} (h:Q x) (k:∀ f∈l,Q f):∀ f∈x::l,Q f:=fun f hf=>by
 rcases List.mem_cons.1 hf with rfl | hf
 ·exact h
 ·exact k f hf
theorem Io (hρ:Bn ρ) (hm:P.follows .mixedOrders=true) {T:FC} (hT:∀ B,GI P ρ B T) {m:Nat} {f:FuncId} {fn:Func} {args:List V}
  (hf:P.funcs[f]? = some fn) (hb:fn.body.isSome=true) (hn:(fn.name == "runtime.NumGoroutine")=false) (hx:E4 (C7 T m (B8 f) args AM Ko)=true) {xs:Array Value} (hr:Bs ρ (fun _=>none) args xs.toList) (w:World) (hgl:Rs ρ w:=by intro b c e fr h; have h:(none:Option (Array Value×TypeId×(Nat×Nat)))=some (c,e,fr):=h; cases h) :
  Calls P f xs w fun e w'=>e = .returned (.bool true)∧Below w.heap.size w w':=by
 obtain ⟨h1,n1,hx⟩:=Rj hx
 obtain ⟨c,hc⟩:=Option.isSome_iff_exists.1 hb
 have:=GJ (R:=fun x w'=>x = .bool true∧Below w.heap.size w w') hf hc (by simpa using hn) (fun o a K Q hK =>
  N6 (B:=w.heap.size) hρ hm (hT _) m f args AM Ko _ h1 n1 hx (fun _=>none) w xs (Lg w Ko hgl) hr o a K Q fun x w' ⟨φ',f1,_,hr⟩=>hK x w' ⟨by simpa only [AF] using hr,IC f1⟩)
 refine this.mono fun e w' he=>?_
 cases e with
 | returned v=>exact ⟨by rw [he.1],he.2⟩
 | _=>exact he.elim
end
end Go.Ev

namespace Go.Ev
set_option linter.unusedVariables false
open Go.RowKit
def JH:HY:=fun args h n =>
 HX args fun v l=>Pl l (Dt v (.fail "") fun p=>Tz p h fun es bs c=>H5 h n (.m es bs c) fun h n'=>.rv (.map n) h n')
def Pk (P:Program) (f:FuncId):Option FuncId :=
 match P.funcs[f]? with
 | some fn=>match fn.body with
  | some (.seq (.region _ r0 false) (.seq (.seq (.region _ r1 false) (.cond (.tmp 4) _ .skip)) (.seq (.region _ r3 false) .ret))) =>
   match r0.toList,r1.toList,r3.toList,fn.results.toList with
   | [o1],[o2,o3],[o4,o5,o6,o7,o8],[.tmp s2]=>match o1.op,o2.op,o3.op,o4.op,o5.op,o6.op,o7.op,o8.op with
    | .assign (.const c1),.move (.tmp s0),.binOp .eql t3 (.tmp s3) (.const (.map none)) _,.move (.tmp s0'),.makeInterface t5 (.tmp s5),.call ct,.typeAssert (.tmp s7) _ t7 false,.assign (.tmp s8) =>
     match ct.callee,ct.args.toList,P.underlying t5 with
     | .value (.func g),[.tmp s6],some (.map _ _) =>
      if (fn.name == "runtime.NumGoroutine")=false∧fn.ntmps=9∧s2=2∧s0=0∧s0'=0∧s3=3∧s5=5∧s6=6∧s7=7∧s8=8∧t3=t5∧t7=t5∧o1.dst=some 2∧o2.dst=some 3∧o3.dst=some 4∧o4.dst=some 5∧o5.dst=some 6∧o6.dst=some 7∧o7.dst=some 8∧o8.dst=some 2 ∧
       o1.guard=none∧o2.guard=none∧o3.guard=none∧o4.guard=none∧o5.guard=none∧o6.guard=none∧o7.guard=none∧o8.guard=none then some g else none
     | _,_,_=>none
    | _,_,_,_,_,_,_,_=>none
   | _,_,_,_=>none
  | _=>none
 | none=>none
section
variable {P:Program} {ρ:Env} {B:Nat}
theorem MX (w:World) (t k e:TypeId) (p:Option Nat) (h:P.underlying t=some (.map k e)):(binOp .eql t (.map p) (.map none)).run P w = .ok (.bool p.isNone) w:=by
 have key:∀ d,(Op.equalIn (d+1) t (.map p) (.map none)).run P w = .ok p.isNone w:=fun d=>by cases p <;> simp [Op.equalIn,run_underlying h]
 simp only [binOp]
 simp [show Op.equal t (.map p) (.map none)=Op.equalIn (9999+1) t (.map p) (.map none) from rfl,key 9999]
theorem Jd (w:World) (t xT k e:TypeId) (v:Value) (h:P.underlying t=some (.map k e)):(Instr.typeAssert (.iface t v) xT t false).run P w = .ok v w:=by
 simp [Instr.typeAssert,run_underlying h,go_sem,Result.andThen]
theorem PY {w:World} {r:Nat} {es:Array MapEntry} {c:Nat} (t:TypeId) (hb:w.heap[r]? = some (.map es c)) :
  (Extern.MapsClone.clone #[.iface t (.map (some r))]).run P w = .ok (.iface t (.map (some w.heap.size))) (w.alloc (.map es c)):=by
 have e:Extern.MapsClone.clone #[.iface t (.map (some r))]=(getObj r >>= fun o=>match o with
   | .map entries clock=>(newObj (.map entries clock) >>= fun n=>pure (.iface t (.map (some n))))
   | _=>stuck "maps.clone: a map expected"):=rfl
 rw [e]
 have hg:(getObj r).run P w = .ok (.map es c) w:=by simp [getObj,Sem.run,hb]
 simp [hg,Result.andThen,go_sem]
theorem NF {f g:FuncId} (hc:Pk P f=some g) (b:Bare P g Extern.MapsClone.clone):H6 P ρ B f JH:=by
 intro args h n v h1 n1 hx φ w xs gm hr
 have hg:(JH args h n).good:=by rw [hx]; trivial
 unfold JH at hx hg
 obtain ⟨m,l,rfl,q1⟩:=EF hg
 rw [q1] at hx hg
 obtain ⟨rfl,q2⟩:=Ht hg
 rw [q2] at hx hg
 rcases Dd hg with ⟨_,q3⟩ | ⟨p,rfl,q3⟩
 ·rw [q3] at hg; exact hg.elim
 rw [q3,Je] at hx hg
 obtain ⟨es,bs,c,hp,q4⟩:=DS hg
 rw [q4,Hn] at hx hg
 obtain ⟨n',hn,q5⟩:=Bl hg
 rw [q5] at hx
 cases hx
 obtain ⟨X,l0,hX,r0,hl0⟩:=AD.1 hr
 have hl0:=AL.1 hl0
 subst hl0
 obtain ⟨bk,s,tot,hφ,rfl⟩:=EY r0
 obtain ⟨ents,k1,k2,k3⟩:=gm.obj p _ bk s tot hp hφ
 have hxe:xs = #[.map (some bk)]:=by cases xs; simp at hX; rw [hX]
 subst hxe
 unfold Pk at hc
 split at hc
 next fn hfn =>
  split at hc
  next i0 r0 i1 r1 cthen i3 r3 hbody =>
   split at hc
   next o1 o2 o3 o4 o5 o6 o7 o8 s2 e0 e1 e3 ers =>
    split at hc
    next c1 s0 t3 s3 t3' s0' t5 s5 ct s7 t7' t7 s8 p1 p2 p3 p4 p5 p6 p7 p8 =>
     split at hc
     next g' s6 kt et hcal hargs hu =>
      split at hc
      next hc' =>
       cases hc
       obtain ⟨hname,hnt,rfl,rfl,rfl,rfl,rfl,rfl,rfl,rfl,rfl,rfl,d1,d2,d3,d4,d5,d6,d7,d8,g1,g2,g3,g4,g5,g6,g7,g8⟩:=hc'
       have hres:fn.results = #[.tmp 2]:=by cases hh:fn.results with | mk l=>rw [hh] at ers; simp at ers; rw [ers]
       have hcargs:ct.args = #[.tmp 6]:=by cases hh:ct.args with | mk l=>rw [hh] at hargs; simp at hargs; rw [hargs]
       have e1':(callFunc f #[.map (some bk)]).run P w = .ok (.enter f #[.map (some bk)]) w:=by
        have hname':fn.name ≠ "runtime.NumGoroutine":=by simpa using hname
        simp [callFunc,hfn,hname',hbody]
       intro o a K Q hK
       rw [e1']
       refine (callsIn_wide (n:=0)).1 (callsIn_of_wp_marks hfn hbody trivial ?_ rfl)
       rw [hnt]
       simp only [List.size_toArray,List.length_cons,List.length_nil,Nat.reduceAdd,Nat.reduceSub,Array.replicate_succ,Array.replicate_zero,List.push_toArray,List.append_toArray,List.nil_append,List.cons_append]
       refine wpIn_seq (wpIn_region_list ?_)
       rw [e0]
       refine wpListIn_plain g1 fun K1 hK1=>BE (x:=c1) (w':=w) (by simp [execOp,p1,Act.eval]) (hK1 _ _ ?_)
       refine wpListIn_nil ?_
       refine wpIn_seq (wpIn_seq (wpIn_region_list ?_))
       rw [e1,d1]
       refine wpListIn_plain g2 fun K2 hK2=>BE (x:=.map (some bk)) (w':=w) (by simp [execOp,p2,Act.eval,Act.put]) (hK2 _ _ ?_)
       rw [d2]
       refine wpListIn_plain g3 fun K3 hK3=>BE (x:=.bool false) (w':=w) (by simp [execOp,p3,Act.eval,Act.put,eqGuard,MX w _ _ _ _ hu]) (hK3 _ _ ?_)
       rw [d3]
       refine wpListIn_nil (wpIn_cond_false (by simp [Act.eval,Act.put]) (wpIn_skip ?_))
       refine wpIn_seq (wpIn_region_list ?_)
       rw [e3]
       refine wpListIn_plain g4 fun K4 hK4=>BE (x:=.map (some bk)) (w':=w) (by simp [execOp,p4,Act.eval,Act.put]) (hK4 _ _ ?_)
       rw [d4]
       refine wpListIn_plain g5 fun K5 hK5=>BE (x:=.iface t7 (.map (some bk))) (w':=w) (by simp [execOp,p5,Act.eval,Act.put,Instr.makeInterface,run_underlying hu]) (hK5 _ _ ?_)
       rw [d5]
       refine wpListIn_plain g6 fun K6 hK6=>BE (x:=.iface t7 (.map (some w.heap.size))) (w':=w.alloc (.map ents c)) (by
        simp only [execOp,p6,resolve,hcal,hcargs,Deferred.ofValue,Act.eval,Act.put]
        have:=b.run (PY (P:=P) t7 k1)
        simp [invoke,Act.eval,this]) (hK6 _ _ ?_)
       rw [d6]
       refine wpListIn_plain g7 fun K7 hK7=>BE (x:=.map (some w.heap.size)) (w':=w.alloc (.map ents c)) (by simp [execOp,p7,Act.eval,Act.put,Jd _ _ _ _ _ _ hu]) (hK7 _ _ ?_)
       rw [d7]
       refine wpListIn_plain g8 fun K8 hK8=>BE (x:=.map (some w.heap.size)) (w':=w.alloc (.map ents c)) (by simp [execOp,p8,Act.eval,Act.put]) (hK8 _ _ ?_)
       rw [d8]
       refine wpListIn_nil (wpIn_ret ?_)
       show LeavesInM Fence.wide 0 P fn _ _ [] .returning (w.alloc (.map ents c))
       unfold LeavesInM LeavesIn
       refine ⟨.map (some w.heap.size),by simp [results,hres,Act.put],?_⟩
       refine hK _ _ ⟨DT φ n (w.heap.size,0,0),Fr.alloc gm.at_n (by omega) (Nat.le_refl _) (by omega) _ _ 0,gm.alloc gm.at_n (by omega) (by omega) (.m es bs c) rfl _ 0 fun φ' hle w' hw'=>⟨ents,hw',L9 hle k2,k3⟩,?_⟩
       simp only [AF]
       exact ⟨w.heap.size,0,0,BJ _ _ _,rfl⟩
      next=>cases hc
     next=>cases hc
    next=>cases hc
   next=>cases hc
  next=>cases hc
 next=>cases hc
end
end Go.Ev

namespace Go.Ev
set_option linter.unusedVariables false
theorem HA.setS_sel (d:D) (p:HA):HA.setS d p (HA.sel d p)=p:=by cases d <;> cases p <;> rfl
theorem HB.setS_sel (d:D) (p:HB):HB.setS d p (HB.sel d p)=p:=by cases d <;> cases p <;> rfl
theorem HC.setS_sel (d:D) (p:HC):HC.setS d p (HC.sel d p)=p:=by cases d <;> cases p <;> rfl
theorem Heap.setS_sel (d:D) (p:Heap):Heap.setS d p (Heap.sel d p)=p:=by cases d <;> cases p <;> rfl
theorem OI (p:K4) (h:Heap):AZ p h (AE p h)=h:=by
 cases p
 simp only [AE,AZ,Fj,Heap.setK_eq,HC.setK_eq,HB.setK_eq,HA.setK_eq,Heap.selK_eq,HC.selK_eq,HB.selK_eq,id,HA.setS_sel,HB.setS_sel,HC.setS_sel,Heap.setS_sel]
def TH (r:R) (κ:S->Heap->K4->R):R :=
 @R.rec (fun _=>R) (fun e t h n=>@Ex.rec (fun _=>R) (κ t h n) (fun id=>.ok (.exit id) t h n) (.ok .ret t h n) e) (BR "") (fun w=>.fail w) (fun _ _ a b=>.both a b) r
abbrev MS:=S->Heap->(Nat->S->R)->R->R
def Ga (body:S->Heap->K4->R) (ih:Nat->S->Heap->K4->R) (k:Nat) (t:S) (h:Heap) (n:K4):R :=
 @Nat.rec (fun _=>R) (.fail "") (fun k _=>TH (body t h n) (ih k)) k
def Lh (body:S->Heap->K4->R) (J:MS) (r:Nat):Nat->S->Heap->K4->R :=
 @Nat.rec (fun _=>Nat->S->Heap->K4->R) (fun k=>Ej body k)
  (fun _ ih k t h n=>J t h (fun j t'=>br (Nat.ble j k) (Ah (Nat.sub k j) fun k=>Ga body ih k t' h n) (Ej body k t h n)) (Ga body ih k t h n)) r
def J7 (body:S->Heap->K4->R) (J:MS):S->Heap->K4->R:=Lh body J 1000000 1000000000
def Jx (body:S->Heap->K4->R) (J:MS):Prop :=
 ∀ t h κ κ0,J t h κ κ0=κ0 ∨ ∃ j t',J t h κ κ0=κ j t' ∧ ∀ k n,Ej body (j+k) t h n=Ej body k t' h n
theorem Dk (body:S->Heap->K4->R):∀ (k:Nat) (t:S) (h:Heap) (n:K4),Ej body k t h n=Ga body (Ej body) k t h n
 | 0,_,_,_=>rfl
 | _+1,_,_,_=>rfl
theorem T5 {body:S->Heap->K4->R} {J:MS} (H:Jx body J):∀ (r k:Nat),Lh body J r k=Ej body k:=by
 intro r
 induction r with
 | zero=>exact fun _=>rfl
 | succ r ih =>
  intro k
  funext t h n
  have e0:Lh body J (r+1) k t h n=J t h (fun j t'=>br (Nat.ble j k) (Ah (Nat.sub k j) fun k=>Ga body (Lh body J r) k t' h n) (Ej body k t h n)) (Ga body (Lh body J r) k t h n):=rfl
  have ih:Lh body J r=Ej body:=funext ih
  rw [e0,ih]
  rcases H t h (fun j t'=>br (Nat.ble j k) (Ah (Nat.sub k j) fun k=>Ga body (Ej body) k t' h n) (Ej body k t h n)) (Ga body (Ej body) k t h n) with e | ⟨j,t',e,hj⟩
  ·rw [e,←Dk]
  ·rw [e]
   cases hb:Nat.ble j k with
   | false=>rfl
   | true =>
    have hb:=Nat.le_of_ble_eq_true hb
    show Ah (Nat.sub k j) (fun k=>Ga body (Ej body) k t' h n)=_
    rw [Af,←Dk,show Nat.sub k j=k - j from rfl,←hj (k - j) n,show j+(k - j)=k by omega]
theorem Ib {body:S->Heap->K4->R} {J:MS} (H:Jx body J):Az body=J7 body J:=(T5 H 1000000 1000000000).symm
def Df:S->Heap->K4->R:=fun t h n=>g7 t fun z20=>g6 t fun z21=>Ao z20 z21 fun z22=>Am z22 (Ad 2 (g5 t fun z23=>A7 z23 fun z24=>A9 2 z24 fun z25=>Aa z25 h fun z26=>g2 t fun z27=>Ag z27 z20 fun z28=>Dx z28 (.int .i64 64) fun z29=>HW (.sc .i) z26 z29 (.bool true) h fun h=>.ok .nrm t h n) fun t h n=>g7 t fun z2a=>Ag z2a (.int .i64 1) fun z2b=>w7 t z2b fun t=>.ok .nrm t h n)<|.ok (.exit 1) t h n
def Kl (v:V) (κ0:R) (κ:Nat->R):R :=
 @V.rec (fun _=>R) (fun _=>Unit) (fun k r=>br (Bi k .i64) (κ r) κ0) (fun _=>κ0) (fun _ _=>κ0) (fun _ _ _ _ _ _=>κ0) (fun _ _=>κ0) (fun _ _=>κ0) (fun _=>κ0) (fun _=>κ0) (fun _ _ _=>κ0) (fun _ _=>κ0) (fun _=>κ0) () (fun _ _ _ _=>()) v
def Sx (v:V) (κ0:R) (κ:K4->Nat->R):R :=
 @V.rec (fun _=>R) (fun _=>Unit) (fun _ _=>κ0) (fun _=>κ0) (fun p o=>κ p o) (fun _ _ _ _ _ _=>κ0) (fun _ _=>κ0) (fun _ _=>κ0) (fun _=>κ0) (fun _=>κ0) (fun _ _ _=>κ0) (fun _ _=>κ0) (fun _=>κ0) () (fun _ _ _ _=>()) v
def SA (v:V) (κ0:R) (κ:K4->R):R :=
 @V.rec (fun _=>R) (fun _=>Unit) (fun _ _=>κ0) (fun _=>κ0) (fun _ _=>κ0) (fun _ _ _ _ _ _=>κ0) (fun _ _=>κ0) (fun _ _=>κ0) (fun _=>κ0) (fun p=>κ p) (fun _ _ _=>κ0) (fun _ _=>κ0) (fun _=>κ0) () (fun _ _ _ _=>()) v
def Jm (v:V):Bool :=
 @V.rec (fun _=>Bool) (fun _=>Unit) (fun _ _=>false) (fun b=>b) (fun _ _=>false) (fun _ _ _ _ _ _=>false) (fun _ _=>false) (fun _ _=>false) (fun _=>false) (fun _=>false) (fun _ _ _=>false) (fun _ _=>false) (fun _=>false) () (fun _ _ _ _=>()) v
def Ud (m:Nat):List V->R->(V->R)->R :=
 @Nat.rec (fun _=>List V->R->(V->R)->R) (fun xs κ0 k=>@List.rec V (fun _=>R) κ0 (fun x _ _=>k x) xs)
  (fun _ ih xs κ0 k=>@List.rec V (fun _=>R) κ0 (fun _ ys _=>ih ys κ0 k) xs) m
def Ph (o:Cj) (i:Nat) (κ0:R) (κ:V->R):R :=
 @Option.rec Ob (fun _=>R) κ0 (fun o=>@Ob.rec (fun _=>R) (fun cs _ _=>@Cs.rec (fun _=>R) (fun xs=>Ud i xs κ0 κ) (fun _ _=>κ0) cs) (fun _ _ _=>κ0) (fun _ _ _ _=>κ0) κ0 (fun _ _=>κ0) o) o
def Pp (o:Cj) (κ0:R) (κ:List (V×V)->List Nat->R):R :=
 @Option.rec Ob (fun _=>R) κ0 (fun o=>@Ob.rec (fun _=>R) (fun _ _ _=>κ0) (fun es bs _=>κ es bs) (fun _ _ _ _=>κ0) κ0 (fun _ _=>κ0) o) o
def MV (k:Nat) (es:List (V×V)):Bool :=
 @List.rec (V×V) (fun _=>Bool) false (fun e _ ih=>@Prod.rec V V (fun _=>Bool) (fun a b=>@V.rec (fun _=>Bool) (fun _=>Unit) (fun kd r=>br (Bi kd .i64) (br (Nat.beq k r) (Jm b) ih) false) (fun _=>false) (fun _ _=>false) (fun _ _ _ _ _ _=>false) (fun _ _=>false) (fun _ _=>false) (fun _=>false) (fun _=>false) (fun _ _ _=>false) (fun _ _=>false) (fun _=>false) () (fun _ _ _ _=>()) a) e) es
def OK:MS:=fun t h κ κ0=>g7 t fun i=>g6 t fun m=>g2 t fun a=>g5 t fun x =>
 Kl i κ0 fun i0=>Kl m κ0 fun m0=>Kl a κ0 fun a0=>Sx x κ0 fun p off=>Br p h fun o=>Ph o (Nat.add off 2) κ0 fun u=>SA u κ0 fun q=>Br q h fun o=>Pp o κ0 fun es bs =>
  br (Nat.ble m0 4611686018427387904) (br (Nat.ble a0 4611686018427387904) (br (Nat.ble i0 m0) (br (GN es bs) (Ah (Nat.div (Nat.add a0 i0) 64) fun k=>br (MV k es)
   (Ah (Nat.sub m0 i0) fun j1=>Ah (Nat.sub (Nat.mul 64 (Nat.succ k)) (Nat.add a0 i0)) fun j2=>br (Nat.ble j1 j2) (Ah (Nat.add i0 j1) fun i=>w7 t (.int .i64 i) fun t=>κ j1 t) (Ah (Nat.add i0 j2) fun i=>w7 t (.int .i64 i) fun t=>κ j2 t))
   κ0) κ0) κ0) κ0) κ0
theorem Rt (v:V) (κ0:R) (κ:Nat->R):Kl v κ0 κ=κ0 ∨ ∃ r,v = .int .i64 r∧Kl v κ0 κ=κ r:=by
 cases v with
 | int k r =>
  show br (Bi k .i64) (κ r) κ0=κ0 ∨ ∃ r',V.int k r = .int .i64 r'∧br (Bi k .i64) (κ r) κ0=κ r'
  cases hb:Bi k .i64 with
  | false=>exact .inl rfl
  | true=>exact .inr ⟨r,by rw [Ba.1 hb],rfl⟩
 | _=>exact .inl rfl
theorem RA (v:V) (κ0:R) (κ:K4->Nat->R):Sx v κ0 κ=κ0 ∨ ∃ p o,v = .ptr p o∧Sx v κ0 κ=κ p o:=by
 cases v with
 | ptr p o=>exact .inr ⟨p,o,rfl,rfl⟩
 | _=>exact .inl rfl
theorem RG (v:V) (κ0:R) (κ:K4->R):SA v κ0 κ=κ0 ∨ ∃ p,v = .map p∧SA v κ0 κ=κ p:=by
 cases v with
 | map p=>exact .inr ⟨p,rfl,rfl⟩
 | _=>exact .inl rfl
theorem MC:∀ (m:Nat) (xs:List V) (κ0:R) (κ:V->R),Ud m xs κ0 κ=κ0 ∨ ∃ v,xs[m]? = some v∧Ud m xs κ0 κ=κ v
 | 0,[],_,_=>.inl rfl
 | 0,x::_,_,_=>.inr ⟨x,rfl,rfl⟩
 | m+1,[],_,_=>.inl rfl
 | m+1,x::xs,κ0,κ=>MC m xs κ0 κ
theorem KP:∀ {m:Nat} {xs:List V} {v:V} {κ:V->R},xs[m]? = some v->DY m xs κ=κ v
 | 0,[],_,_,h=>by cases h
 | 0,x::_,_,_,h=>by cases h; rfl
 | m+1,[],_,_,h=>by cases h
 | m+1,x::xs,v,κ,h=>KP (m:=m) (xs:=xs) h
theorem Qf (o:Cj) (i:Nat) (κ0:R) (κ:V->R):Ph o i κ0 κ=κ0 ∨ ∃ xs sup prev v,o=some (.c (.l xs) sup prev)∧xs[i]? = some v∧Ph o i κ0 κ=κ v:=by
 cases o with
 | none=>exact .inl rfl
 | some o=>cases o with
  | c cs sup prev=>cases cs with
   | l xs =>
    rcases MC i xs κ0 κ with e | ⟨v,h,e⟩
    ·exact .inl e
    ·exact .inr ⟨xs,sup,prev,v,rfl,h,e⟩
   | b _ _=>exact .inl rfl
  | _=>exact .inl rfl
theorem PT (o:Cj) (κ0:R) (κ:List (V×V)->List Nat->R):Pp o κ0 κ=κ0 ∨ ∃ es bs c,o=some (.m es bs c)∧Pp o κ0 κ=κ es bs:=by
 cases o with
 | none=>exact .inl rfl
 | some o=>cases o with
  | m es bs c=>exact .inr ⟨es,bs,c,rfl,rfl⟩
  | _=>exact .inl rfl
theorem OA {v:V} (h:Jm v=true):v = .bool true:=by
 cases v with
 | bool b=>rw [show b=true from h]
 | _=>cases h
theorem P5 {k:Nat}:∀ {es:List (V×V)} {κ:List (V×V)->R},MV k es=true->GR (.sc .i) (.int .i64 k) (.bool true) es κ=κ es
 | [],κ,h=>by cases h
 | (a,b)::es,κ,h=>by
  cases a with
  | int kd r =>
   have h:br (Bi kd .i64) (br (Nat.beq k r) (Jm b) (MV k es)) false=true:=h
   cases hk:Bi kd .i64 with
   | false=>rw [hk] at h; cases h
   | true =>
    have hkd:=Ba.1 hk
    subst hkd
    have hx:br (Nat.beq k r) (Jm b) (MV k es)=true:=h
    have e0:GR (.sc .i) (.int .i64 k) (.bool true) ((.int .i64 r,b)::es) κ=Cz (Nat.beq k r) fun q=>br q (κ ((.int .i64 k,.bool true)::es)) (GR (.sc .i) (.int .i64 k) (.bool true) es fun l=>κ ((.int .i64 r,b)::l)):=rfl
    rw [e0,BS]
    cases hb:Nat.beq k r with
    | true =>
     rw [hb] at hx
     rw [OA (show Jm b=true from hx),Nat.eq_of_beq_eq_true hb]; rfl
    | false =>
     rw [hb] at hx
     exact P5 (κ:=fun l=>κ ((.int .i64 r,b)::l)) (show MV k es=true from hx)
  | _=>cases h
theorem Pq {a b:Nat} {κ:V->R} (h:a<b) (hb:b≤4611686018427387904):Ao (.int .i64 a) (.int .i64 b) κ=κ (.bool true):=by
 have e0:Ao (.int .i64 a) (.int .i64 b) κ=Cz (br (Nat.ble 9223372036854775808 a) (br (Nat.ble 9223372036854775808 b) (Nat.ble (Nat.succ a) b) true) (br (Nat.ble 9223372036854775808 b) false (Nat.ble (Nat.succ a) b))) fun r=>κ (.bool r):=rfl
 have h1:Nat.ble 9223372036854775808 a=false:=Bool.eq_false_iff.2 fun h=>by have:=Nat.le_of_ble_eq_true h; omega
 have h2:Nat.ble 9223372036854775808 b=false:=Bool.eq_false_iff.2 fun h=>by have:=Nat.le_of_ble_eq_true h; omega
 have h3:Nat.ble (Nat.succ a) b=true:=Nat.ble_eq_true_of_le h
 rw [e0,BS,h1,h2,h3]; rfl
theorem JF {a b:Nat} {κ:V->R} (h:a+b<18446744073709551616):Ag (.int .i64 a) (.int .i64 b) κ=κ (.int .i64 (a+b)):=by
 have e0:Ag (.int .i64 a) (.int .i64 b) κ=Ah (Nat.mod (Nat.add a b) 18446744073709551616) fun r=>κ (.int .i64 r):=rfl
 rw [e0,Af,show Nat.mod (Nat.add a b) 18446744073709551616=a+b from Nat.mod_eq_of_lt h]
theorem Ui {a:Nat} {κ:V->R} (h:a<9223372036854775808):Dx (.int .i64 a) (.int .i64 64) κ=κ (.int .i64 (a / 64)):=by
 have e0:Dx (.int .i64 a) (.int .i64 64) κ=br (Nat.ble (Nat.succ a) 9223372036854775808) (Ah (Nat.div a 64) fun r=>κ (.int .i64 r)) (.fail ""):=rfl
 rw [e0,show Nat.ble (Nat.succ a) 9223372036854775808=true from Nat.ble_eq_true_of_le h]
 show Ah (Nat.div a 64) (fun r=>κ (V.int .i64 r))=κ (V.int .i64 (a / 64))
 rw [Af]; rfl
theorem Fv {id:Nat} {t:S} {h:Heap} {n:K4} {κ:S->Heap->K4->R}:Ad id (.ok .nrm t h n) κ=κ t h n:=rfl
theorem Vq {p:K4} {off:Nat} {h:Heap} {xs:List V} {sup:Bool} {prev:Option K4} {v:V} {κ:V->R} (hp:AE p h=some (.c (.l xs) sup prev)) (hv:xs[off]? = some v):Aa (.ptr p off) h κ=κ v:=by
 show Pd p h (fun cs _ _=>FI cs off κ)=_
 rw [G7]
 have e:(Ie p h fun cs _ _=>FI cs off κ)=@Option.rec Ob (fun _=>R) (.fail "") (fun o=>@Ob.rec (fun _=>R) (fun cs _ _=>FI cs off κ) (BR "") (Fe "") (.fail "") (AN "") o) (AE p h):=Dp _ _ _
 rw [e,hp]
 exact KP hv
theorem Vx {q:K4} {h:Heap} {es:List (V×V)} {bs:List Nat} {c k:Nat} {κ:Heap->R} (hq:AE q h=some (.m es bs c)) (hs:GN es bs=true) (hh:MV k es=true):HW (.sc .i) (.map q) (.int .i64 k) (.bool true) h κ=κ h:=by
 show QN q h (fun es bs c k'=>GR (.sc .i) (.int .i64 k) (.bool true) es fun es=>Um es bs c fun bs c=>k' es bs c) κ=κ h
 rw [PC]
 have e:∀ F,NL q h F=@Option.rec Ob (fun _=>R) (.fail "") (fun o=>@Ob.rec (fun _=>R) (BR "") F (Fe "") (.fail "") (AN "") o) (AE q h):=fun F=>Dp _ _ _
 rw [e,hq]
 show GR (.sc .i) (.int .i64 k) (.bool true) es (fun es'=>Um es' bs c fun bs c=>Fj q h (some (.m es' bs c)) κ)=κ h
 rw [P5 hh]
 unfold Um
 rw [hs]
 show Fj q h (some (.m es bs c)) κ=κ h
 rw [Bz,←hq,OI]
theorem MI {d0 d1 d3 d4:V} {c2 c3 c4 c5 c6 c7:SQ} {h:Heap} {n p q:K4} {off i0 m0 a0 c:Nat} {xs:List V} {sup:Bool} {prev:Option K4} {es:List (V×V)} {bs:List Nat}
  (hp:AE p h=some (.c (.l xs) sup prev)) (hv:xs[off+2]? = some (.map q)) (hq:AE q h=some (.m es bs c)) (hs:GN es bs=true) (hm:m0≤4611686018427387904) (ha:a0≤4611686018427387904) (hi:i0<m0) (hh:MV ((a0+i0) / 64) es=true) :
  Df (.mk (.mk d0 d1 (.int .i64 a0) d3) (.mk d4 (.ptr p off) (.int .i64 m0) (.int .i64 i0)) c2 c3 c4 c5 c6 c7) h n = .ok .nrm (.mk (.mk d0 d1 (.int .i64 a0) d3) (.mk d4 (.ptr p off) (.int .i64 m0) (.int .i64 (i0+1))) c2 c3 c4 c5 c6 c7) h n:=by
 have e1:∀ κ:V->R,A7 (.ptr p off) κ=κ (.ptr p off):=fun κ=>rfl
 have e2:∀ κ:V->R,A9 2 (.ptr p off) κ=κ (.ptr p (off+2)):=fun κ=>by
  show Ah (Nat.add off 2) (fun o=>κ (.ptr p o))=_
  rw [Af]
 unfold Df
 show Ao (.int .i64 i0) (.int .i64 m0) _=_
 rw [Pq hi hm]
 show Ad 2 (A7 (.ptr p off) _) _=_
 rw [e1,e2,Vq hp hv]
 show Ad 2 (Ag (.int .i64 a0) (.int .i64 i0) _) _=_
 rw [JF (by omega),Ui (by omega),Vx hq hs hh,Fv]
 show Ag (.int .i64 i0) (.int .i64 1) _=_
 rw [JF (by omega)]
theorem Hp {d0 d1 d3 d4:V} {c2 c3 c4 c5 c6 c7:SQ} {h:Heap} {n p q:K4} {off m0 a0 c k:Nat} {xs:List V} {sup:Bool} {prev:Option K4} {es:List (V×V)} {bs:List Nat}
  (hp:AE p h=some (.c (.l xs) sup prev)) (hv:xs[off+2]? = some (.map q)) (hq:AE q h=some (.m es bs c)) (hs:GN es bs=true) (hm:m0≤4611686018427387904) (ha:a0≤4611686018427387904) (hh:MV k es=true) :
  ∀ (j i0:Nat),i0+j≤m0->(∀ r,r<j->(a0+(i0+r)) / 64=k)->∀ K,Ej Df (j+K) (.mk (.mk d0 d1 (.int .i64 a0) d3) (.mk d4 (.ptr p off) (.int .i64 m0) (.int .i64 i0)) c2 c3 c4 c5 c6 c7) h n
   = Ej Df K (.mk (.mk d0 d1 (.int .i64 a0) d3) (.mk d4 (.ptr p off) (.int .i64 m0) (.int .i64 (i0+j))) c2 c3 c4 c5 c6 c7) h n
 | 0,i0,_,_,K=>by rw [Nat.zero_add]; rfl
 | j+1,i0,hj,hr,K=>by
  have h0:=hr 0 (by omega)
  rw [show j+1+K=(j+K)+1 by omega,Dk]
  show TH (Df _ h n) (Ej Df (j+K))=_
  rw [MI hp hv hq hs hm ha (by omega) (by rw [show a0+i0=a0+(i0+0) by omega,h0]; exact hh)]
  show Ej Df (j+K) _ h n=_
  rw [Hp hp hv hq hs hm ha hh j (i0+1) (by omega) (fun r hr'=>by have:=hr (r+1) (by omega); rw [←this]; congr 2; omega) K,show i0+1+j=i0+(j+1) by omega]
section
variable {G:R->Prop}
theorem En {v:V} {κ0:R} {κ:Nat->R} (g0:G κ0) (g1:∀ r,v = .int .i64 r->G (κ r)):G (Kl v κ0 κ):=by
 rcases Rt v κ0 κ with e | ⟨r,h,e⟩ <;> rw [e]
 ·exact g0
 ·exact g1 r h
theorem R9 {v:V} {κ0:R} {κ:K4->Nat->R} (g0:G κ0) (g1:∀ p o,v = .ptr p o->G (κ p o)):G (Sx v κ0 κ):=by
 rcases RA v κ0 κ with e | ⟨p,o,h,e⟩ <;> rw [e]
 ·exact g0
 ·exact g1 p o h
theorem S6 {v:V} {κ0:R} {κ:K4->R} (g0:G κ0) (g1:∀ p,v = .map p->G (κ p)):G (SA v κ0 κ):=by
 rcases RG v κ0 κ with e | ⟨p,h,e⟩ <;> rw [e]
 ·exact g0
 ·exact g1 p h
theorem Qm {o:Cj} {i:Nat} {κ0:R} {κ:V->R} (g0:G κ0) (g1:∀ xs sup prev v,o=some (.c (.l xs) sup prev)->xs[i]? = some v->G (κ v)):G (Ph o i κ0 κ):=by
 rcases Qf o i κ0 κ with e | ⟨xs,sup,prev,v,h,h',e⟩ <;> rw [e]
 ·exact g0
 ·exact g1 xs sup prev v h h'
theorem QB {o:Cj} {κ0:R} {κ:List (V×V)->List Nat->R} (g0:G κ0) (g1:∀ es bs c,o=some (.m es bs c)->G (κ es bs)):G (Pp o κ0 κ):=by
 rcases PT o κ0 κ with e | ⟨es,bs,c,h,e⟩ <;> rw [e]
 ·exact g0
 ·exact g1 es bs c h
theorem CW {b:Bool} {x y:R} (g0:G y) (g1:b=true->G x):G (br b x y):=by
 cases b with
 | false=>exact g0
 | true=>exact g1 rfl
theorem Gp {p:K4} {h:Heap} {κ:Cj->R} (g:G (κ (AE p h))):G (Br p h κ):=by rw [BC]; exact g
theorem GQ {m:Nat} {κ:Nat->R} (g:G (κ m)):G (Ah m κ):=by rw [Af]; exact g
end
theorem Om:Jx Df OK:=by
 intro t h κ κ0
 cases t with
 | mk c0 c1 c2 c3 c4 c5 c6 c7 =>
  cases c0 with
  | mk d0 d1 a d3 =>
   cases c1 with
   | mk d4 x m i =>
    obtain ⟨T,hT⟩:∃ T:S,T = .mk (.mk d0 d1 a d3) (.mk d4 x m i) c2 c3 c4 c5 c6 c7:=⟨_,rfl⟩
    obtain ⟨G,hG⟩:∃ G:R->Prop,∀ r,G r ↔ (r=κ0 ∨ ∃ j t',r=κ j t' ∧ ∀ k n,Ej Df (j+k) T h n=Ej Df k t' h n):=⟨_,fun r=>Iff.rfl⟩
    have g0:G κ0:=(hG _).2 (.inl rfl)
    rw [←hT]
    refine (hG _).1 ?_
    rw [hT]
    refine En (G:=G) g0 fun i0 hi=>En (G:=G) g0 fun m0 hm=>En (G:=G) g0 fun a0 ha=>R9 (G:=G) g0 fun p off hx=>Gp (G:=G) (Qm (G:=G) g0 fun xs sup prev u hp hv=>S6 (G:=G) g0 fun q hu=>?_)
    subst hi hm ha hx hu
    refine Gp (G:=G) (QB (G:=G) g0 fun es bs c hq=>CW (G:=G) g0 fun b1=>CW (G:=G) g0 fun b2=>CW (G:=G) g0 fun b3=>CW (G:=G) g0 fun b4=>GQ (G:=G) (CW (G:=G) g0 fun b5=>GQ (G:=G) (GQ (G:=G) ?_)))
    have b1:=Nat.le_of_ble_eq_true b1
    have b2:=Nat.le_of_ble_eq_true b2
    have b3:=Nat.le_of_ble_eq_true b3
    have e1:Nat.sub m0 i0=m0 - i0:=rfl
    have e2:Nat.sub (Nat.mul 64 (Nat.succ (Nat.div (Nat.add a0 i0) 64))) (Nat.add a0 i0)=64*((a0+i0) / 64+1) - (a0+i0):=rfl
    have e3:Nat.div (Nat.add a0 i0) 64=(a0+i0) / 64:=rfl
    rw [e1,e2]
    rw [e3] at b5
    have key:∀ j,j≤m0 - i0->j≤64*((a0+i0) / 64+1) - (a0+i0)->∀ K n,Ej Df (j+K) (.mk (.mk d0 d1 (.int .i64 a0) d3) (.mk d4 (.ptr p off) (.int .i64 m0) (.int .i64 i0)) c2 c3 c4 c5 c6 c7) h n
      = Ej Df K (.mk (.mk d0 d1 (.int .i64 a0) d3) (.mk d4 (.ptr p off) (.int .i64 m0) (.int .i64 (i0+j))) c2 c3 c4 c5 c6 c7) h n:=fun j hj1 hj2 K n =>
     Hp hp hv hq b4 b1 b2 b5 j i0 (by omega) (fun r hr=>by omega) K
    cases hb:Nat.ble (m0 - i0) (64*((a0+i0) / 64+1) - (a0+i0)) with
    | true =>
     rw [show ∀ x y:R,br true x y=x from fun _ _=>rfl,Af]
     refine (hG _).2 (.inr ⟨m0 - i0,_,rfl,fun K n=>?_⟩)
     rw [hT]
     exact key _ (Nat.le_refl _) (Nat.le_of_ble_eq_true hb) K n
    | false =>
     rw [show ∀ x y:R,br false x y=y from fun _ _=>rfl,Af]
     refine (hG _).2 (.inr ⟨64*((a0+i0) / 64+1) - (a0+i0),_,rfl,fun K n=>?_⟩)
     rw [hT]
     refine key _ ?_ (Nat.le_refl _) K n
     rcases Nat.lt_or_ge (64*((a0+i0) / 64+1) - (a0+i0)) (m0 - i0) with h' | h'
     ·omega
     ·rw [Nat.ble_eq_true_of_le h'] at hb; cases hb
theorem RO:Az Df=J7 Df OK:=Ib Om
def Ih:S->Heap->K4->R:=fun t h n=>g7 t fun ze=>Ao ze (.int .i64 8) fun zf=>Am zf (Ad 3 (g3 t fun zg=>Ct zg (.int .u64 1) fun zh=>DU zg (.int .u32 1) fun zi=>LV zi fun zj=>DU (.int .u32 2197175160) zj fun zk=>BH zh zk fun zl=>w3 t zl fun t=>.ok .nrm t h n) fun t h n=>g7 t fun zm=>Ag zm (.int .i64 1) fun zn=>w7 t zn fun t=>.ok .nrm t h n)<|.ok (.exit 2) t h n
def UZ (v:V) (κ0:R) (κ:Nat->R):R :=
 @V.rec (fun _=>R) (fun _=>Unit) (fun k r=>br (Bi k .u32) (κ r) κ0) (fun _=>κ0) (fun _ _=>κ0) (fun _ _ _ _ _ _=>κ0) (fun _ _=>κ0) (fun _ _=>κ0) (fun _=>κ0) (fun _=>κ0) (fun _ _ _=>κ0) (fun _ _=>κ0) (fun _=>κ0) () (fun _ _ _ _=>()) v
def Hz (x:Nat):Nat:=Nat.xor (Nat.shiftRight x 1) (Nat.land 2197175160 (Nat.mod (Nat.add 0 (Nat.sub 4294967296 (Nat.land x 1))) 4294967296))
def F4 (j:Nat):Nat->Nat:=@Nat.rec (fun _=>Nat->Nat) (fun x=>x) (fun _ ih x=>ih (Hz x)) j
theorem RH {G:R->Prop} {v:V} {κ0:R} {κ:Nat->R} (g0:G κ0) (g1:∀ r,v = .int .u32 r->G (κ r)):G (UZ v κ0 κ):=by
 cases v with
 | int k r =>
  show G (br (Bi k .u32) (κ r) κ0)
  cases hb:Bi k .u32 with
  | false=>exact g0
  | true=>exact g1 r (by rw [Ba.1 hb])
 | _=>exact g0
theorem P8 {x:Nat} (h:x<4294967296):Hz x<4294967296:=by
 have h1:x >>> 1<2 ^ 32:=by rw [Nat.shiftRight_eq_div_pow]; omega
 have h2:2197175160 &&& ((0+(4294967296 - (x &&& 1))) % 4294967296)<2 ^ 32:=Nat.lt_of_le_of_lt Nat.and_le_left (by decide)
 exact Nat.xor_lt_two_pow h1 h2
theorem PU {d0 d1 d2 d4 d5 d6:V} {c2 c3 c4 c5 c6 c7:SQ} {h:Heap} {n:K4} {i x:Nat} (hi:i<8) (hx:x<4294967296) :
  Ih (.mk (.mk d0 d1 d2 (.int .u32 x)) (.mk d4 d5 d6 (.int .i64 i)) c2 c3 c4 c5 c6 c7) h n = .ok .nrm (.mk (.mk d0 d1 d2 (.int .u32 (Hz x))) (.mk d4 d5 d6 (.int .i64 (i+1))) c2 c3 c4 c5 c6 c7) h n:=by
 have e1:∀ κ:V->R,Ct (.int .u32 x) (.int .u64 1) κ=κ (.int .u32 (Nat.shiftRight x 1)):=fun κ=>by
  have e0:Ct (.int .u32 x) (.int .u64 1) κ=br (Nat.ble (Nat.succ x) 4294967296) (Ah (Nat.shiftRight x 1) fun r=>κ (.int .u32 r)) (.fail ""):=rfl
  rw [e0,show Nat.ble (Nat.succ x) 4294967296=true from Nat.ble_eq_true_of_le hx]
  show Ah (Nat.shiftRight x 1) (fun r=>κ (V.int .u32 r))=_
  rw [Af]
 have e2:∀ (a b:Nat) (κ:V->R),DU (.int .u32 a) (.int .u32 b) κ=κ (.int .u32 (Nat.land a b)):=fun a b κ=>by
  have e0:DU (.int .u32 a) (.int .u32 b) κ=Ah (Nat.land a b) fun r=>κ (.int .u32 r):=rfl
  rw [e0,Af]
 have e3:∀ (a b:Nat) (κ:V->R),BH (.int .u32 a) (.int .u32 b) κ=κ (.int .u32 (Nat.xor a b)):=fun a b κ=>by
  have e0:BH (.int .u32 a) (.int .u32 b) κ=Ah (Nat.xor a b) fun r=>κ (.int .u32 r):=rfl
  rw [e0,Af]
 have e4:∀ (a:Nat) (κ:V->R),LV (.int .u32 a) κ=κ (.int .u32 (Nat.mod (Nat.add 0 (Nat.sub 4294967296 a)) 4294967296)):=fun a κ=>by
  have e0:LV (.int .u32 a) κ=Ah (Nat.mod (Nat.add 0 (Nat.sub 4294967296 a)) 4294967296) fun r=>κ (.int .u32 r):=rfl
  rw [e0,Af]
 unfold Ih
 show Ao (.int .i64 i) (.int .i64 8) _=_
 rw [Pq hi (by omega)]
 show Ad 3 (Ct (.int .u32 x) (.int .u64 1) _) _=_
 rw [e1,e2,e4,e2,e3,Fv]
 show Ag (.int .i64 i) (.int .i64 1) _=_
 rw [JF (by omega)]; rfl
theorem JO {d0 d1 d2 d4 d5 d6:V} {c2 c3 c4 c5 c6 c7:SQ} {h:Heap} {n:K4} :
  ∀ (j i x:Nat),i+j≤8->x<4294967296->∀ K,Ej Ih (j+K) (.mk (.mk d0 d1 d2 (.int .u32 x)) (.mk d4 d5 d6 (.int .i64 i)) c2 c3 c4 c5 c6 c7) h n
   = Ej Ih K (.mk (.mk d0 d1 d2 (.int .u32 (F4 j x))) (.mk d4 d5 d6 (.int .i64 (i+j))) c2 c3 c4 c5 c6 c7) h n
 | 0,i,x,_,_,K=>by rw [Nat.zero_add]; rfl
 | j+1,i,x,hj,hx,K=>by
  rw [show j+1+K=(j+K)+1 by omega,Dk]
  show TH (Ih _ h n) (Ej Ih (j+K))=_
  rw [PU (by omega) hx]
  show Ej Ih (j+K) _ h n=_
  rw [JO j (i+1) (Hz x) (by omega) (P8 hx) K,show i+1+j=i+(j+1) by omega]; rfl
end Go.Ev

namespace Go.Ev
set_option linter.unusedVariables false
theorem IV (x:Nat):Hz x=(x >>> 1) ^^^ (if x % 2=1 then 2197175160 else 0):=by
 show (x >>> 1) ^^^ (2197175160 &&& ((0+(4294967296 - (x &&& 1))) % 4294967296))=_
 rw [Nat.and_one_is_mod]
 rcases Nat.mod_two_eq_zero_or_one x with h | h <;> rw [h] <;> rfl
theorem Ri (a b:Nat):Hz (a ^^^ b)=Hz a ^^^ Hz b:=by
 rw [IV,IV,IV,Nat.shiftRight_xor_distrib]
 have h:(a ^^^ b) % 2=(a+b) % 2:=by
  have e:=Nat.xor_mod_two_pow (a:=a) (b:=b) (n:=1)
  rw [Nat.pow_one] at e
  rw [e]
  rcases Nat.mod_two_eq_zero_or_one a with ha | ha <;> rcases Nat.mod_two_eq_zero_or_one b with hb | hb <;> rw [ha,hb,Nat.add_mod,ha,hb] <;> rfl
 rcases Nat.mod_two_eq_zero_or_one a with ha | ha <;> rcases Nat.mod_two_eq_zero_or_one b with hb | hb
 ·have:(a ^^^ b) % 2=0:=by omega
  simp [ha,hb,this]
 ·have:(a ^^^ b) % 2=1:=by omega
  simp [ha,hb,this,Nat.xor_assoc]
 ·have:(a ^^^ b) % 2=1:=by omega
  simp only [ha,hb,this,if_true,if_false,Nat.xor_zero,reduceIte,Nat.zero_ne_one]
  simp only [Nat.xor_assoc,Nat.xor_comm (b >>> 1)]
 ·have:(a ^^^ b) % 2=0:=by omega
  simp only [ha,hb,this,reduceIte,Nat.xor_zero,Nat.zero_ne_one]
  generalize a >>> 1=p
  generalize b >>> 1=q
  apply Nat.eq_of_testBit_eq
  intro i
  simp only [Nat.testBit_xor]
  cases p.testBit i <;> cases q.testBit i <;> cases (2197175160:Nat).testBit i <;> rfl
theorem MP:∀ (j a b:Nat),F4 j (a ^^^ b)=F4 j a ^^^ F4 j b
 | 0,_,_=>rfl
 | j+1,a,b=>by
  show F4 j (Hz (a ^^^ b))=F4 j (Hz a) ^^^ F4 j (Hz b)
  rw [Ri,MP]
theorem PK (m:Nat):Hz (2*m)=m:=by
 rw [IV,Nat.mul_mod_right,Nat.shiftRight_eq_div_pow]; simp
theorem MU:∀ (j q:Nat),F4 j (2 ^ j*q)=q
 | 0,q=>by show 2 ^ 0*q=q; omega
 | j+1,q=>by
  show F4 j (Hz (2 ^ (j+1)*q))=q
  rw [show 2 ^ (j+1)*q=2*(2 ^ j*q) by rw [Nat.pow_succ,Nat.mul_comm (2 ^ j) 2,Nat.mul_assoc],PK,MU]
theorem PR (y:Nat):y=(2 ^ 8*(y / 2 ^ 8)) ^^^ (y % 2 ^ 8):=by
 apply Nat.eq_of_testBit_eq
 intro i
 rw [Nat.testBit_xor,Nat.testBit_two_pow_mul,Nat.testBit_mod_two_pow,Nat.testBit_div_two_pow]
 by_cases h:8≤i
 ·have h2:¬ i<8:=by omega
  simp [h,h2,show i - 8+8=i by omega]
 ·have h2:i<8:=by omega
  simp [h,h2]
theorem PE:∀ (j:Nat) {x:Nat},x<4294967296->F4 j x<4294967296
 | 0,_,h=>h
 | j+1,x,h=>by show F4 j (Hz x)<_; exact PE j (P8 h)
def Mm:Nat:=739192992287711479272199505450802174180944935565270117958735211195864883404034321072575759094604862722103638970562105654534965976895685875045062592379112792078985738769595739548904202597956689934399229134939183684703714920378025961387270778473281346239181994539903784708069763525514523240966634758967547723819948093640238732618841930738396489733218495472825776362786651876001733504161834172818020394346043168775838788836904094212573134772649703407841545716218812283123984658267516726659948613643534969466376019494666614718815429190684246327365394372519258139400530706807260825564948901732507176286259752944669944548605679086391305931301222988237278526118373278492307487107474296386730408839343753629123128283572704772544098648517013212824233746728729854273945055038163572363387039908578405517982904131040319505009390255243990278860523606265815895619710957563380635837315129012976704357344131429050367435482781212454439427280336740616644805562249867251859340971513883299426874200217165290071196282711253218164865174241416073419876796213293517950780480733835793334181716730049909888366296838117288969681076010175182486226749959458237712061794030512295298309798453151350168298336411933176330063767835252143862258384197256040876755067274410026075604127347481305827849130625987059819492849891529288490451730106428376839488665315100810248841715739596040091270955624355315201462555945279029196416991040143682248153287045556144390819759753283690710943841433520922330785319143598322120010359670046292912296136999474302691355293324886616216537430761212949134977443278613456733727644009057088654822989287437792990360527449046917776586498554113667460252688333953726837853077886002223252717428049737186417130969568838070377296274375688487884511950345697105344492065413654582468965021167618282726469469929715764674333614324035309623813703284835732759643444816186743644084768553800456975483023122915759126937036001171360984116527371042249105866775992680472790331893395027602898497596949565462107432141452181910127216554936352241472142685417685618824675396402282974391037184848625305334079832924861339728594832024687877422901193159812755254516361032103358958860399075665489958680801135040793967932263797765198140728704255468134266160630916650637156666977854355604551105352627939572551570066195951258251545213658746024110892771407706843609824354401912642345941057507434795836161327506684973593222243082074173577446865175872619707633030268690896528048779238513612740446475572226293760
abbrev Md (y:Nat):Nat:=Nat.xor (Nat.shiftRight y 8) (Nat.land (Nat.shiftRight Mm (Nat.mul 32 (Nat.land y 255))) 4294967295)
theorem Ta:HJ (fun b=>Nat.beq (F4 8 b) (Nat.land (Nat.shiftRight Mm (Nat.mul 32 b)) 4294967295)) 256=true:=by kernel_rfl
theorem Pt (y:Nat):Md y=F4 8 y:=by
 have h255:Nat.land y 255=y % 2 ^ 8:=Nat.and_two_pow_sub_one_eq_mod y 8
 have hb:y % 2 ^ 8<256:=Nat.mod_lt _ (by decide)
 have key:F4 8 (y % 2 ^ 8)=Nat.land (Nat.shiftRight Mm (Nat.mul 32 (y % 2 ^ 8))) 4294967295:=Nat.eq_of_beq_eq_true (D7 Ta _ hb)
 have e:F4 8 y=F4 8 (2 ^ 8*(y / 2 ^ 8)) ^^^ F4 8 (y % 2 ^ 8):=by rw [←MP,←PR]
 rw [e,MU,key]
 show Nat.xor (Nat.shiftRight y 8) (Nat.land (Nat.shiftRight Mm (Nat.mul 32 (Nat.land y 255))) 4294967295)=_
 rw [h255]
 show (y >>> 8) ^^^ _=_
 rw [Nat.shiftRight_eq_div_pow]
theorem UI {a b:Nat} {κ:V->R} (h:b≤a) (ha:a≤4611686018427387904):Ao (.int .i64 a) (.int .i64 b) κ=κ (.bool false):=by
 have e0:Ao (.int .i64 a) (.int .i64 b) κ=Cz (br (Nat.ble 9223372036854775808 a) (br (Nat.ble 9223372036854775808 b) (Nat.ble (Nat.succ a) b) true) (br (Nat.ble 9223372036854775808 b) false (Nat.ble (Nat.succ a) b))) fun r=>κ (.bool r):=rfl
 have h1:Nat.ble 9223372036854775808 a=false:=Bool.eq_false_iff.2 fun h=>by have:=Nat.le_of_ble_eq_true h; omega
 have h2:Nat.ble 9223372036854775808 b=false:=Bool.eq_false_iff.2 fun h=>by have:=Nat.le_of_ble_eq_true h; omega
 have h3:Nat.ble (Nat.succ a) b=false:=Bool.eq_false_iff.2 fun h=>by have:=Nat.le_of_ble_eq_true h; omega
 rw [e0,BS,h1,h2,h3]; rfl
theorem S0 {p:K4} {off len cap esz i:Nat} {ex:Bool} {κ:V->R} (h:i<len) (hi:i<9223372036854775808):Ap esz (.sl p off len cap ex esz) (.int .i64 i) κ=κ (.ptr p (off+i*esz)):=by
 have e0:Ap esz (.sl p off len cap ex esz) (.int .i64 i) κ=br (Nat.ble (Nat.succ i) 9223372036854775808) (br (Nat.beq esz esz) (br (Nat.ble (Nat.succ i) len) (Ah (Nat.add off (Nat.mul i esz)) fun o=>κ (.ptr p o)) (.fail "")) (.fail "")) (.fail ""):=rfl
 rw [e0,show Nat.ble (Nat.succ i) 9223372036854775808=true from Nat.ble_eq_true_of_le hi,show Nat.ble (Nat.succ i) len=true from Nat.ble_eq_true_of_le h,show Nat.beq esz esz=true from Nat.beq_refl _]
 show Ah (Nat.add off (Nat.mul i esz)) (fun o=>κ (.ptr p o))=_
 rw [Af]; rfl
theorem Rb {p:K4} {off m c:Nat} {h:Heap} {sup:Bool} {prev:Option K4} {κ:V->R} (hp:AE p h=some (.c (.b m c) sup prev)) (hv:off<m):Aa (.ptr p off) h κ=κ (.int .u8 (lo (sh c off) 1)):=by
 show Pd p h (fun cs _ _=>FI cs off κ)=_
 rw [G7]
 have e:(Ie p h fun cs _ _=>FI cs off κ)=@Option.rec Ob (fun _=>R) (.fail "") (fun o=>@Ob.rec (fun _=>R) (fun cs _ _=>FI cs off κ) (BR "") (Fe "") (.fail "") (AN "") o) (AE p h):=Dp _ _ _
 rw [e,hp]
 show br (Nat.ble (Nat.succ off) m) (Ah (lo (sh c off) 1) fun r=>κ (.int .u8 r)) (.fail "")=_
 rw [show Nat.ble (Nat.succ off) m=true from Nat.ble_eq_true_of_le hv]
 show Ah (lo (sh c off) 1) (fun r=>κ (V.int .u8 r))=_
 rw [Af]
theorem OZ (c:Nat):lo c 1<256:=by rw [Du]; exact Nat.mod_lt _ (by decide)
theorem Pn (c a:Nat):sh (sh c a) 1=sh c (a+1):=by
 rw [Eo,Eo,Eo,Nat.div_div_eq_div_mul,←Nat.pow_add]
def Yv (v:V) (κ0:R) (κ:K4->Nat->Nat->Nat->R):R :=
 @V.rec (fun _=>R) (fun _=>Unit) (fun _ _=>κ0) (fun _=>κ0) (fun _ _=>κ0) (fun p off len _ _ esz=>κ p off len esz) (fun _ _=>κ0) (fun _ _=>κ0) (fun _=>κ0) (fun _=>κ0) (fun _ _ _=>κ0) (fun _ _=>κ0) (fun _=>κ0) () (fun _ _ _ _=>()) v
theorem Pc {G:R->Prop} {v:V} {κ0:R} {κ:K4->Nat->Nat->Nat->R} (g0:G κ0) (g1:∀ p off len cap ex esz,v = .sl p off len cap ex esz->G (κ p off len esz)):G (Yv v κ0 κ):=by
 cases v with
 | sl p off len cap ex esz=>exact g1 p off len cap ex esz rfl
 | _=>exact g0
def TS (o:Cj) (κ0:R) (κ:Nat->Nat->R):R :=
 @Option.rec Ob (fun _=>R) κ0 (fun o=>@Ob.rec (fun _=>R) (fun cs _ _=>@Cs.rec (fun _=>R) (fun _=>κ0) κ cs) (fun _ _ _=>κ0) (fun _ _ _ _=>κ0) κ0 (fun _ _=>κ0) o) o
theorem NE {G:R->Prop} {o:Cj} {κ0:R} {κ:Nat->Nat->R} (g0:G κ0) (g1:∀ n c sup prev,o=some (.c (.b n c) sup prev)->G (κ n c)):G (TS o κ0 κ):=by
 cases o with
 | none=>exact g0
 | some o=>cases o with
  | c cs sup prev=>cases cs with
   | l xs=>exact g0
   | b n c=>exact g1 n c sup prev rfl
  | _=>exact g0
def V5 (v:V) (κ0:R) (κ:Nat->R):R :=
 @V.rec (fun _=>R) (fun _=>Unit) (fun k r=>br (Bi k .u64) (κ r) κ0) (fun _=>κ0) (fun _ _=>κ0) (fun _ _ _ _ _ _=>κ0) (fun _ _=>κ0) (fun _ _=>κ0) (fun _=>κ0) (fun _=>κ0) (fun _ _ _=>κ0) (fun _ _=>κ0) (fun _=>κ0) () (fun _ _ _ _=>()) v
theorem QV {G:R->Prop} {v:V} {κ0:R} {κ:Nat->R} (g0:G κ0) (g1:∀ r,v = .int .u64 r->G (κ r)):G (V5 v κ0 κ):=by
 cases v with
 | int k r =>
  show G (br (Bi k .u64) (κ r) κ0)
  cases hb:Bi k .u64 with
  | false=>exact g0
  | true=>exact g1 r (by rw [Ba.1 hb])
 | _=>exact g0
def Eu:S->Heap->K4->R:=fun t h n=>g6 t fun z5=>g5 t fun z6=>Ao z5 z6 fun z7=>Am z7 (Ad 1 (g4 t fun z8=>Ap 1 z8 z5 fun z9=>Aa z9 h fun za=>g3 t fun zb=>AU .u32 za fun zc=>BH zb zc fun zd=>Ad 2 (w3 t zd fun t=>w7 t (.int .i64 0) fun t=>Az Ih t h n) fun t h n=>.ok .nrm t h n) fun t h n=>g6 t fun zo=>Ag zo (.int .i64 1) fun zp=>w6 t zp fun t=>.ok .nrm t h n)<|.ok (.exit 0) t h n
def My (j:Nat):Nat->Nat->Nat:=@Nat.rec (fun _=>Nat->Nat->Nat) (fun _ x=>x) (fun _ ih d x=>ih (sh d 1) (Md (Nat.xor x (lo d 1)))) j
def Ub (j:Nat):Nat->Nat->(Nat->R)->R:=@Nat.rec (fun _=>Nat->Nat->(Nat->R)->R) (fun _ x κ=>κ x) (fun _ ih d x κ=>Ah (Nat.xor x (lo d 1)) fun y=>Ah (Md y) fun x=>Ah (sh d 1) fun d=>ih d x κ) j
theorem Po:∀ (j d x:Nat) (κ:Nat->R),Ub j d x κ=κ (My j d x)
 | 0,_,_,_=>rfl
 | j+1,d,x,κ=>by
  show Ah (Nat.xor x (lo d 1)) (fun y=>Ah (Md y) fun x=>Ah (sh d 1) fun d=>Ub j d x κ)=κ (My j (sh d 1) (Md (Nat.xor x (lo d 1))))
  rw [Af,Af,Af,Po]
theorem Ti (d j:Nat):lo (lo d (j+1)) 1=lo d 1:=by
 rw [Du,Du,Du,Nat.pow_succ,Nat.mod_mul_left_mod]
theorem Tv (d j:Nat):sh (lo d (j+1)) 1=lo (sh d 1) j:=by
 rw [Du,Du,Eo,Eo,Nat.pow_succ,Nat.pow_one,Nat.mul_comm,Nat.mod_mul_right_div_self]
theorem P7:∀ (j d x:Nat),My j (lo d j) x=My j d x
 | 0,_,_=>rfl
 | j+1,d,x=>by
  show My j (sh (lo d (j+1)) 1) (Md (Nat.xor x (lo (lo d (j+1)) 1)))=My j (sh d 1) (Md (Nat.xor x (lo d 1)))
  rw [Ti,Tv,P7]
def R6:MS:=fun t h κ κ0=>g6 t fun i=>g5 t fun m=>g4 t fun s=>g3 t fun x=>Kl i κ0 fun i0=>Kl m κ0 fun m0=>Yv s κ0 fun p off len esz=>UZ x κ0 fun x0=>Br p h fun o=>TS o κ0 fun nb c =>
 br (Nat.ble (Nat.succ i0) m0) (br (Nat.ble m0 len) (br (Nat.ble (Nat.add off len) nb) (br (Nat.beq esz 1) (br (Nat.ble (Nat.succ x0) 4294967296) (br (Nat.ble m0 4611686018427387904)
  (Ah (Nat.sub m0 i0) fun j=>Ah (lo (sh c (Nat.add off i0)) j) fun d=>Ub j d x0 fun x=>w3 t (.int .u32 x) fun t=>w6 t (.int .i64 m0) fun t=>w7 t (.int .i64 8) fun t=>κ j t) κ0) κ0) κ0) κ0) κ0) κ0
theorem RR (body:S->Heap->K4->R) (k:Nat) (t:S) (h:Heap) (n:K4):Ej body (k+1) t h n=TH (body t h n) (Ej body k):=Dk body (k+1) t h n
theorem NJ {id:Nat} {t:S} {h:Heap} {n:K4} {κ:S->Heap->K4->R}:Ad id (.ok (.exit id) t h n) κ=κ t h n:=by
 show br (Nat.beq id id) (κ t h n) (.ok (.exit id) t h n)=κ t h n
 rw [Nat.beq_refl]; rfl
theorem Qg {d0 d1 d2 d4 d5 d6:V} {c2 c3 c4 c5 c6 c7:SQ} {h:Heap} {n:K4} {x:Nat} (hx:x<4294967296) :
  Az Ih (.mk (.mk d0 d1 d2 (.int .u32 x)) (.mk d4 d5 d6 (.int .i64 0)) c2 c3 c4 c5 c6 c7) h n = .ok (.exit 2) (.mk (.mk d0 d1 d2 (.int .u32 (F4 8 x))) (.mk d4 d5 d6 (.int .i64 8)) c2 c3 c4 c5 c6 c7) h n:=by
 show Ej Ih 1000000000 _ _ _=_
 rw [show (1000000000:Nat)=8+(999999991+1) from rfl,JO 8 0 x (by omega) hx,RR]
 have e:Ih (.mk (.mk d0 d1 d2 (.int .u32 (F4 8 x))) (.mk d4 d5 d6 (.int .i64 (0+8))) c2 c3 c4 c5 c6 c7) h n = .ok (.exit 2) (.mk (.mk d0 d1 d2 (.int .u32 (F4 8 x))) (.mk d4 d5 d6 (.int .i64 (0+8))) c2 c3 c4 c5 c6 c7) h n:=by
  unfold Ih
  show Ao (.int .i64 (0+8)) (.int .i64 8) _=_
  rw [UI (by omega) (by omega)]; rfl
 rw [e]; rfl
theorem S5 {k:IntKind} {r:Nat} {κ:V->R} (h:r<256) (hk:256≤Mk k):AU k (.int .u8 r) κ=κ (.int k r):=by
 have e0:AU k (.int .u8 r) κ=br (Nat.ble (Nat.succ r) 256) (Ah (Nat.mod r (Mk k)) fun r=>κ (.int k r)) (br (Nat.ble (Mk k) 256) (Ah (Nat.mod r (Mk k)) fun r=>κ (.int k r)) (Ah (Nat.sub (Mk k) (Nat.sub 256 r)) fun r=>κ (.int k r))):=rfl
 rw [e0,show Nat.ble (Nat.succ r) 256=true from Nat.ble_eq_true_of_le h]
 show Ah (Nat.mod r (Mk k)) (fun r=>κ (V.int k r))=_
 rw [Af,show Nat.mod r (Mk k)=r from Nat.mod_eq_of_lt (by omega)]
theorem JC {d0 d1 d2 d7:V} {c2 c3 c4 c5 c6 c7:SQ} {h:Heap} {n p:K4} {off len cap m i x nb c:Nat} {ex sup:Bool} {prev:Option K4}
  (hp:AE p h=some (.c (.b nb c) sup prev)) (hi:i<m) (hm:m≤len) (hl:off+len≤nb) (hb:m≤4611686018427387904) (hx:x<4294967296) :
  Eu (.mk (.mk d0 d1 d2 (.int .u32 x)) (.mk (.sl p off len cap ex 1) (.int .i64 m) (.int .i64 i) d7) c2 c3 c4 c5 c6 c7) h n
   = .ok .nrm (.mk (.mk d0 d1 d2 (.int .u32 (Md (Nat.xor x (lo (sh c (off+i)) 1))))) (.mk (.sl p off len cap ex 1) (.int .i64 m) (.int .i64 (i+1)) (.int .i64 8)) c2 c3 c4 c5 c6 c7) h n:=by
 unfold Eu
 show Ao (.int .i64 i) (.int .i64 m) _=_
 rw [Pq hi hb]
 show Ad 1 (Ap 1 (.sl p off len cap ex 1) (.int .i64 i) _) _=_
 rw [S0 (by omega) (by omega),Rb hp (by omega)]
 show Ad 1 (AU .u32 (.int .u8 (lo (sh c (off+i*1)) 1)) _) _=_
 rw [S5 (OZ _) (by decide),Nat.mul_one]
 have e3:∀ (a b:Nat) (κ:V->R),BH (.int .u32 a) (.int .u32 b) κ=κ (.int .u32 (Nat.xor a b)):=fun a b κ=>by
  have e0:BH (.int .u32 a) (.int .u32 b) κ=Ah (Nat.xor a b) fun r=>κ (.int .u32 r):=rfl
  rw [e0,Af]
 rw [e3]
 have hx2:Nat.xor x (lo (sh c (off+i)) 1)<4294967296:=Nat.xor_lt_two_pow (n:=32) hx (Nat.lt_trans (OZ _) (by decide))
 rw [Pt]
 generalize Nat.xor x (lo (sh c (off+i)) 1)=y at hx2
 show Ad 1 (Ad 2 (Az Ih (.mk (.mk d0 d1 d2 (.int .u32 y)) (.mk (.sl p off len cap ex 1) (.int .i64 m) (.int .i64 i) (.int .i64 0)) c2 c3 c4 c5 c6 c7) h n) _) _=_
 rw [Qg hx2,NJ,Fv]
 show Ag (.int .i64 i) (.int .i64 1) _=_
 rw [JF (by omega)]
theorem IJ {d0 d1 d2:V} {c2 c3 c4 c5 c6 c7:SQ} {h:Heap} {n p:K4} {off len cap m nb c:Nat} {ex sup:Bool} {prev:Option K4}
  (hp:AE p h=some (.c (.b nb c) sup prev)) (hm:m≤len) (hl:off+len≤nb) (hb:m≤4611686018427387904) :
  ∀ (j i x:Nat) (d7:V),i+(j+1)≤m->x<4294967296->∀ K,Ej Eu (j+1+K) (.mk (.mk d0 d1 d2 (.int .u32 x)) (.mk (.sl p off len cap ex 1) (.int .i64 m) (.int .i64 i) d7) c2 c3 c4 c5 c6 c7) h n
   = Ej Eu K (.mk (.mk d0 d1 d2 (.int .u32 (My (j+1) (sh c (off+i)) x))) (.mk (.sl p off len cap ex 1) (.int .i64 m) (.int .i64 (i+(j+1))) (.int .i64 8)) c2 c3 c4 c5 c6 c7) h n
 | 0,i,x,d7,hj,hx,K=>by
  rw [show 0+1+K=K+1 by omega,Dk]
  show TH (Eu _ h n) (Ej Eu K)=_
  rw [JC hp (by omega) hm hl hb hx]; rfl
 | j+1,i,x,d7,hj,hx,K=>by
  rw [show j+1+1+K=(j+1+K)+1 by omega,Dk]
  show TH (Eu _ h n) (Ej Eu (j+1+K))=_
  rw [JC hp (by omega) hm hl hb hx]
  show Ej Eu (j+1+K) _ h n=_
  rw [IJ hp hm hl hb j (i+1) _ _ (by omega) (by rw [Pt]; exact PE 8 (Nat.xor_lt_two_pow (n:=32) hx (Nat.lt_trans (OZ _) (by decide)))) K]
  have e:My (j+1+1) (sh c (off+i)) x=My (j+1) (sh (sh c (off+i)) 1) (Md (Nat.xor x (lo (sh c (off+i)) 1))):=rfl
  rw [e,Pn,show off+(i+1)=off+i+1 by omega,show i+1+(j+1)=i+(j+1+1) by omega]
theorem PW:Jx Eu R6:=by
 intro t h κ κ0
 cases t with
 | mk c0 c1 c2 c3 c4 c5 c6 c7 =>
  cases c0 with
  | mk d0 d1 d2 x =>
   cases c1 with
   | mk s m i d7 =>
    obtain ⟨T,hT⟩:∃ T:S,T = .mk (.mk d0 d1 d2 x) (.mk s m i d7) c2 c3 c4 c5 c6 c7:=⟨_,rfl⟩
    obtain ⟨G,hG⟩:∃ G:R->Prop,∀ r,G r ↔ (r=κ0 ∨ ∃ j t',r=κ j t' ∧ ∀ k n,Ej Eu (j+k) T h n=Ej Eu k t' h n):=⟨_,fun r=>Iff.rfl⟩
    have g0:G κ0:=(hG _).2 (.inl rfl)
    rw [←hT]
    refine (hG _).1 ?_
    rw [hT]
    refine En (G:=G) g0 fun i0 hi=>En (G:=G) g0 fun m0 hm=>Pc (G:=G) g0 fun p off len cap ex esz hs=>RH (G:=G) g0 fun x0 hx=>Gp (G:=G) (NE (G:=G) g0 fun nb c sup prev hp=>?_)
    subst hi hm hs hx
    refine CW (G:=G) g0 fun b1=>CW (G:=G) g0 fun b2=>CW (G:=G) g0 fun b3=>CW (G:=G) g0 fun b4=>CW (G:=G) g0 fun b5=>CW (G:=G) g0 fun b6=>?_
    have b1:=Nat.le_of_ble_eq_true b1
    have b2:=Nat.le_of_ble_eq_true b2
    have b3:off+len≤nb:=Nat.le_of_ble_eq_true b3
    have b4:=Nat.eq_of_beq_eq_true b4
    have b5:=Nat.le_of_ble_eq_true b5
    have b6:=Nat.le_of_ble_eq_true b6
    subst b4
    obtain ⟨j,hj⟩:∃ j,Nat.sub m0 i0=j+1:=⟨m0 - i0 - 1,by show m0 - i0=_; omega⟩
    have hj':m0 - i0=j+1:=hj
    rw [hj,Af,Af,Po,P7]
    refine (hG _).2 (.inr ⟨j+1,_,rfl,fun K n=>?_⟩)
    rw [hT,IJ hp b2 b3 b6 j i0 x0 d7 (by omega) b5 K,show i0+(j+1)=m0 by omega]; rfl
theorem Sw:Az Eu=J7 Eu R6:=Ib PW
def Fd:S->Heap->K4->R:=fun t h n=>g5 t fun z3=>g4 t fun z4=>Ao z3 z4 fun z5=>Am z5 (Ad 1 (g3 t fun z6=>Ap 1 z6 z3 fun z7=>Aa z7 h fun z8=>g2 t fun z9=>Gz z9 (.int .u64 8) fun za=>AU .u64 z8 fun zb=>Mj za zb fun zc=>w2 t zc fun t=>.ok .nrm t h n) fun t h n=>g5 t fun zd=>Ag zd (.int .i64 1) fun ze=>w5 t ze fun t=>.ok .nrm t h n)<|.ok (.exit 0) t h n
abbrev IM (x b:Nat):Nat:=Nat.lor (Nat.mod (Nat.shiftLeft x 8) 18446744073709551616) b
def Hu (j:Nat):Nat->Nat->Nat:=@Nat.rec (fun _=>Nat->Nat->Nat) (fun _ x=>x) (fun _ ih d x=>ih (sh d 1) (IM x (lo d 1))) j
def RS (j:Nat):Nat->Nat->(Nat->R)->R:=@Nat.rec (fun _=>Nat->Nat->(Nat->R)->R) (fun _ x κ=>κ x) (fun _ ih d x κ=>Ah (IM x (lo d 1)) fun x=>Ah (sh d 1) fun d=>ih d x κ) j
theorem N3:∀ (j d x:Nat) (κ:Nat->R),RS j d x κ=κ (Hu j d x)
 | 0,_,_,_=>rfl
 | j+1,d,x,κ=>by
  show Ah (IM x (lo d 1)) (fun x=>Ah (sh d 1) fun d=>RS j d x κ)=κ (Hu j (sh d 1) (IM x (lo d 1)))
  rw [Af,Af,N3]
theorem NH:∀ (j d x:Nat),Hu j (lo d j) x=Hu j d x
 | 0,_,_=>rfl
 | j+1,d,x=>by
  show Hu j (sh (lo d (j+1)) 1) (IM x (lo (lo d (j+1)) 1))=Hu j (sh d 1) (IM x (lo d 1))
  rw [Ti,Tv,NH]
def QX:MS:=fun t h κ κ0=>g5 t fun i=>g4 t fun m=>g3 t fun s=>g2 t fun x=>Kl i κ0 fun i0=>Kl m κ0 fun m0=>Yv s κ0 fun p off len esz=>V5 x κ0 fun x0=>Br p h fun o=>TS o κ0 fun nb c =>
 br (Nat.ble (Nat.succ i0) m0) (br (Nat.ble m0 len) (br (Nat.ble (Nat.add off len) nb) (br (Nat.beq esz 1) (br (Nat.ble m0 4611686018427387904)
  (Ah (Nat.sub m0 i0) fun j=>Ah (lo (sh c (Nat.add off i0)) j) fun d=>RS j d x0 fun x=>w2 t (.int .u64 x) fun t=>w5 t (.int .i64 m0) fun t=>κ j t) κ0) κ0) κ0) κ0) κ0
theorem O3 {d0 d1 d6 d7:V} {c2 c3 c4 c5 c6 c7:SQ} {h:Heap} {n p:K4} {off len cap m i x nb c:Nat} {ex sup:Bool} {prev:Option K4}
  (hp:AE p h=some (.c (.b nb c) sup prev)) (hi:i<m) (hm:m≤len) (hl:off+len≤nb) (hb:m≤4611686018427387904) :
  Fd (.mk (.mk d0 d1 (.int .u64 x) (.sl p off len cap ex 1)) (.mk (.int .i64 m) (.int .i64 i) d6 d7) c2 c3 c4 c5 c6 c7) h n
   = .ok .nrm (.mk (.mk d0 d1 (.int .u64 (IM x (lo (sh c (off+i)) 1))) (.sl p off len cap ex 1)) (.mk (.int .i64 m) (.int .i64 (i+1)) d6 d7) c2 c3 c4 c5 c6 c7) h n:=by
 unfold Fd
 show Ao (.int .i64 i) (.int .i64 m) _=_
 rw [Pq hi hb]
 show Ad 1 (Ap 1 (.sl p off len cap ex 1) (.int .i64 i) _) _=_
 rw [S0 (by omega) (by omega),Rb hp (by omega),Nat.mul_one]
 have e1:∀ (κ:V->R),Gz (.int .u64 x) (.int .u64 8) κ=κ (.int .u64 (Nat.mod (Nat.shiftLeft x 8) 18446744073709551616)):=fun κ=>by
  have e0:Gz (.int .u64 x) (.int .u64 8) κ=Ah (Nat.mod (Nat.shiftLeft x 8) 18446744073709551616) fun r=>κ (.int .u64 r):=rfl
  rw [e0,Af]
 have e2:∀ (a b:Nat) (κ:V->R),Mj (.int .u64 a) (.int .u64 b) κ=κ (.int .u64 (Nat.lor a b)):=fun a b κ=>by
  have e0:Mj (.int .u64 a) (.int .u64 b) κ=Ah (Nat.lor a b) fun r=>κ (.int .u64 r):=rfl
  rw [e0,Af]
 show Ad 1 (Gz (.int .u64 x) (.int .u64 8) _) _=_
 rw [e1,S5 (OZ _) (by decide),e2,Fv]
 show Ag (.int .i64 i) (.int .i64 1) _=_
 rw [JF (by omega)]
theorem Ip {d0 d1 d6 d7:V} {c2 c3 c4 c5 c6 c7:SQ} {h:Heap} {n p:K4} {off len cap m nb c:Nat} {ex sup:Bool} {prev:Option K4}
  (hp:AE p h=some (.c (.b nb c) sup prev)) (hm:m≤len) (hl:off+len≤nb) (hb:m≤4611686018427387904) :
  ∀ (j i x:Nat),i+j≤m->∀ K,Ej Fd (j+K) (.mk (.mk d0 d1 (.int .u64 x) (.sl p off len cap ex 1)) (.mk (.int .i64 m) (.int .i64 i) d6 d7) c2 c3 c4 c5 c6 c7) h n
   = Ej Fd K (.mk (.mk d0 d1 (.int .u64 (Hu j (sh c (off+i)) x)) (.sl p off len cap ex 1)) (.mk (.int .i64 m) (.int .i64 (i+j)) d6 d7) c2 c3 c4 c5 c6 c7) h n
 | 0,i,x,hj,K=>by rw [Nat.zero_add]; rfl
 | j+1,i,x,hj,K=>by
  rw [show j+1+K=(j+K)+1 by omega,Dk]
  show TH (Fd _ h n) (Ej Fd (j+K))=_
  rw [O3 hp (by omega) hm hl hb]
  show Ej Fd (j+K) _ h n=_
  rw [Ip hp hm hl hb j (i+1) _ (by omega) K]
  have e:Hu (j+1) (sh c (off+i)) x=Hu j (sh (sh c (off+i)) 1) (IM x (lo (sh c (off+i)) 1)):=rfl
  rw [e,Pn,show off+(i+1)=off+i+1 by omega,show i+1+j=i+(j+1) by omega]
theorem Qp:Jx Fd QX:=by
 intro t h κ κ0
 cases t with
 | mk c0 c1 c2 c3 c4 c5 c6 c7 =>
  cases c0 with
  | mk d0 d1 x s =>
   cases c1 with
   | mk m i d6 d7 =>
    obtain ⟨T,hT⟩:∃ T:S,T = .mk (.mk d0 d1 x s) (.mk m i d6 d7) c2 c3 c4 c5 c6 c7:=⟨_,rfl⟩
    obtain ⟨G,hG⟩:∃ G:R->Prop,∀ r,G r ↔ (r=κ0 ∨ ∃ j t',r=κ j t' ∧ ∀ k n,Ej Fd (j+k) T h n=Ej Fd k t' h n):=⟨_,fun r=>Iff.rfl⟩
    have g0:G κ0:=(hG _).2 (.inl rfl)
    rw [←hT]
    refine (hG _).1 ?_
    rw [hT]
    refine En (G:=G) g0 fun i0 hi=>En (G:=G) g0 fun m0 hm=>Pc (G:=G) g0 fun p off len cap ex esz hs=>QV (G:=G) g0 fun x0 hx=>Gp (G:=G) (NE (G:=G) g0 fun nb c sup prev hp=>?_)
    subst hi hm hs hx
    refine CW (G:=G) g0 fun b1=>CW (G:=G) g0 fun b2=>CW (G:=G) g0 fun b3=>CW (G:=G) g0 fun b4=>CW (G:=G) g0 fun b6=>?_
    have b1:=Nat.le_of_ble_eq_true b1
    have b2:=Nat.le_of_ble_eq_true b2
    have b3:off+len≤nb:=Nat.le_of_ble_eq_true b3
    have b4:=Nat.eq_of_beq_eq_true b4
    have b6:=Nat.le_of_ble_eq_true b6
    subst b4
    rw [Af,Af,N3,NH]
    refine (hG _).2 (.inr ⟨Nat.sub m0 i0,_,rfl,fun K n=>?_⟩)
    rw [hT,Ip hp b2 b3 b6 (Nat.sub m0 i0) i0 x0 (by show i0+(m0 - i0)≤m0; omega) K,show i0+Nat.sub m0 i0=m0 by show i0+(m0 - i0)=m0; omega]; rfl
theorem Sg:Az Fd=J7 Fd QX:=Ib Qp
end Go.Ev

namespace Go.Ev
set_option linter.unusedVariables false
theorem KC {P:Program} {f:FuncId} {fn:Func} {c:Code} {xs:Array Value} {w:World} {R:Value->World->Prop} (hf:P.funcs[f]? = some fn) (hb:fn.body=some c) (hn:(fn.name == "runtime.NumGoroutine")=false)
  (h:Calls P f xs w fun e w'=>∃ v,e = .returned v∧R v w'):Jw P f xs w R:=by
 intro o a K Q hK
 have hn':fn.name ≠ "runtime.NumGoroutine":=by simpa using hn
 have e:(callFunc f xs).run P w = .ok (.enter f xs) w:=by simp [callFunc,hf,hn',hb]
 rw [e]
 show Calls P f xs w _
 refine h.mono fun e w' ⟨v,he,hv⟩=>?_
 subst he
 exact hK v w' hv
def MM (r:Nat) (m:Nat):Nat->Nat->(Nat->R)->R :=
 @Nat.rec (fun _=>Nat->Nat->(Nat->R)->R) (fun _ a κ=>κ a)
  (fun _ ih c a κ=>br (Nat.beq (lo c 1) r) (Ah (sh c 1) fun d=>Ah (Nat.succ a) fun a=>ih d a κ) (Ah (sh c 1) fun d=>ih d a κ)) m
theorem Sz (b:UInt8) (l:List UInt8):∀ (a:Nat) (κ:Nat->R),MM b.toNat l.length (AV l) a κ=κ (a+Lib.countByte l b):=by
 induction l with
 | nil=>intro a κ; show κ a=κ (a+Lib.countByte [] b); simp [Lib.countByte]
 | cons x l ih =>
  intro a κ
  have hx:=x.toNat_lt
  have e0:lo (AV (x::l)) 1=x.toNat:=by rw [Du]; simp only [AV]; omega
  have e1:sh (AV (x::l)) 1=AV l:=by rw [Eo]; simp only [AV]; omega
  have e2:MM b.toNat (x::l).length (AV (x::l)) a κ=br (Nat.beq x.toNat b.toNat) (MM b.toNat l.length (AV l) (a+1) κ) (MM b.toNat l.length (AV l) a κ):=by
   have:MM b.toNat (x::l).length (AV (x::l)) a κ=br (Nat.beq (lo (AV (x::l)) 1) b.toNat) (Ah (sh (AV (x::l)) 1) fun d=>Ah (Nat.succ a) fun a=>MM b.toNat l.length d a κ) (Ah (sh (AV (x::l)) 1) fun d=>MM b.toNat l.length d a κ):=rfl
   rw [this,e0,e1,Af,Af,Af]
  rw [e2,ih,ih]
  have hc:Lib.countByte (x::l) b=Lib.countByte l b+if x == b then 1 else 0:=by unfold Lib.countByte; rw [List.count_cons]
  rw [hc]
  by_cases hb:x=b
  ·subst hb
   rw [Nat.beq_refl,AI]; simp; congr 1; omega
  ·have h1:Nat.beq x.toNat b.toNat=false:=by
    cases h:Nat.beq x.toNat b.toNat with
    | false=>rfl
    | true=>exact absurd (UInt8.toNat_inj.1 (Nat.eq_of_beq_eq_true h)) hb
   have h2:(x == b)=false:=by simpa using hb
   rw [h1,AH,h2]; simp
def Ds:HY:=fun args h n =>
 HX args fun x l=>HX l fun y l=>Pl l (Bd x fun m c=>FJ y fun k r=>br (Bi k .u8) (br (Nat.ble m 1000000000) (MM r m c 0 fun i=>.rv (.int .i64 i) h n) (.fail "")) (.fail ""))
theorem Gb {P:Program} {ρ:Env} {B:Nat} {f:FuncId} (b:Bare P f Extern.BytealgCount.count):H6 P ρ B f Ds:=by
 intro args h n v h1 n1 hx φ w xs g hr
 have hg:(Ds args h n).good:=by rw [hx]; trivial
 unfold Ds at hx hg
 obtain ⟨x,l,rfl,q1⟩:=EF hg
 rw [q1] at hx hg
 obtain ⟨y,l,rfl,q2⟩:=EF hg
 rw [q2] at hx hg
 obtain ⟨rfl,q3⟩:=Ht hg
 rw [q3] at hx
 obtain ⟨m,c,rfl,hx⟩:=MH hx
 obtain ⟨k,r,rfl,hx⟩:=O1 hx
 obtain ⟨hk,hx⟩:=M0 hx
 have:=Ba.1 hk
 subst this
 obtain ⟨hm,hx⟩:=M0 hx
 have hm:=Al.1 hm
 obtain ⟨x1,ys,hxs,hr1,hr⟩:=AD.1 hr
 obtain ⟨x2,ys,rfl,hr2,hr⟩:=AD.1 hr
 obtain rfl:=AL.1 hr
 obtain ⟨s,rfl,hsz,hc⟩:=(by simpa only [AF] using hr1:∃ s:ByteArray,x1 = .string s∧s.size=m∧AV s.data.toList=c)
 obtain ⟨hlt,rfl⟩:=(by simpa only [AF] using hr2:r<Mk .u8∧x2 = .int .u8 (BG .u8 r))
 have hlt:r<256:=hlt
 have hdec:BG .u8 r=(r:Int):=At (by show r<256; exact hlt)
 obtain rfl:xs = #[.string s,.int .u8 (BG .u8 r)]:=by cases xs; simp at hxs; simp [hxs]
 rw [hdec]
 refine b.runs (Lib.run_countString s r w) ⟨φ,?_⟩
 have hb:((r:Int).toNat.toUInt8).toNat=r:=by
  simp only [Int.toNat_natCast]
  exact UInt8.toNat_ofNat_of_lt' (show r<2 ^ 8 from hlt)
 have hl:s.data.toList.length=m:=by rw [←hsz]; rfl
 have key:=Sz ((r:Int).toNat.toUInt8) s.data.toList 0 (fun i=>R.rv (.int .i64 i) h n)
 rw [hb,hl,hc] at key
 rw [key] at hx
 have hle:Lib.countByte s.data.toList ((r:Int).toNat.toUInt8)≤m:=by rw [←hl]; exact List.count_le_length
 cases hx
 refine ⟨Fr.refl h φ n w,g,?_⟩
 simp only [AF]
 rw [Nat.zero_add]
 have h9:Lib.countByte s.data.toList ((r:Int).toNat.toUInt8)<9223372036854775808:=by omega
 exact ⟨Nat.lt_trans h9 (by decide),congrArg (Value.int .i64) (At (k:=.i64) h9).symm⟩
section
variable {P:Program} {ρ:Env} {B:Nat}
end
abbrev iI (n:Nat):V:=.int .i64 n
abbrev iW (n:Nat):V:=.int .u32 n
abbrev iB (n:Nat):V:=.int .u8 n
abbrev iL (n:Nat):V:=.int .u64 n
abbrev nR (t:S) (h:Heap) (n:K4):R:=.ok .nrm t h n
abbrev rT (t:S) (h:Heap) (n:K4):R:=.ok .ret t h n
def o8 (i:Nat):O8:=@Nat.rec (fun _=>O8) .d0 (fun i _=>@Nat.rec (fun _=>O8) .d1 (fun i _=>@Nat.rec (fun _=>O8) .d2 (fun i _=>@Nat.rec (fun _=>O8) .d3 (fun i _=>@Nat.rec (fun _=>O8) .d4 (fun i _=>@Nat.rec (fun _=>O8) .d5 (fun i _=>@Nat.rec (fun _=>O8) .d6 (fun _ _=>.d7) i) i) i) i) i) i) i
def o4 (i:Nat):O4:=@Nat.rec (fun _=>O4) .d0 (fun i _=>@Nat.rec (fun _=>O4) .d1 (fun i _=>@Nat.rec (fun _=>O4) .d2 (fun _ _=>.d3) i) i) i
def mS (l:List Nat):SM:=@List.rec Nat (fun _=>Nat->SM) (fun _=>[]) (fun p _ ih i=>(⟨D.ofN (Nat.div p 16),D.ofN (Nat.mod p 16)⟩,⟨o8 (Nat.div i 4),o4 (Nat.mod i 4)⟩)::ih (Nat.succ i)) l 0
theorem M5 {α:Type} {p:α->Bool} {l:List α} (k:Nat) (h1:((l.take k).all fun x=>!p x)=true) (h2:((l.drop k).all fun x=>!p x)=true):(l.all fun x=>!p x)=true:=by
 rw [←List.take_append_drop k l,List.all_append,h1,h2]; rfl
theorem Si {P:Program} (h:(P.funcs.toList.all fun fn=>!fn.goes)=true) (func:String):P.goesAt .entering func=false:=by
 have key:∀ g:Nat,(P.funcs[g]?).any Func.goes=false:=fun g=>by
  cases hx:P.funcs[g]? with
  | none=>rfl
  | some fn =>
   have hm:fn∈P.funcs.toList:=by
    rw [←Array.getElem?_toList] at hx
    exact List.mem_of_getElem? hx
   have:=List.all_eq_true.1 h fn hm
   simpa using this
 have hp:P.funcs.any Func.goes=false:=by
  rw [←Array.any_toList,Bool.eq_false_iff]
  intro hc
  obtain ⟨fn,hm,hg⟩:=List.any_eq_true.1 hc
  have:=List.all_eq_true.1 h fn hm
  rw [hg] at this; cases this
 have hgo:∀ f,P.goes f=false:=fun f=>by
  unfold Program.goes
  rw [hp,Bool.and_false,Bool.or_false,Bool.eq_false_iff]
  intro hc
  simp only [key] at hc
  simp at hc
 unfold Program.goesAt Program.goesFrom
 cases P.funcNamed func with
 | none=>rfl
 | some f=>simp [hgo f]
end Go.Ev

namespace Go.Ev
set_option linter.unusedVariables false
abbrev BU:=Nat->Option (Array Value×TypeId×(Nat×Nat))
def Kd (P:Program) (fs:List Nat) (gl:BU):Env:={ Hq P fs with gl:=gl }
theorem Wg {P:Program} {fs:List Nat} {gl:BU}:Bn (Kd P fs gl):=fun _=>rfl
section
variable {P:Program} {ρ:Env} {B:Nat}
theorem Cq.gl {fs:List Nat} {gl:BU} {f:FuncId} {e:Ent} (h:Cq P (Hq P fs) f e):Cq P (Kd P fs gl) f e:=h
theorem GI.mkG {fs:List Nat} {gl:BU} {T:FC} (h:∀ f e,JI (B8 f) T=some e->LT P (Kd P fs gl) B f e) (ha:∀ f∈fs,∃ e,JI (B8 f) T=some e∧Cq P (Kd P fs gl) f e):GI P (Kd P fs gl) B T:=by
 refine ⟨h,fun f A hA=>?_⟩
 have hA:@Bool.rec (fun _=>Option ApC) none (Kq P f) (fs.contains f)=some A:=hA
 cases hc:fs.contains f with
 | false=>rw [hc] at hA; cases hA
 | true=>exact ha f (List.contains_iff_mem.1 hc)
def Ox (P:Program) (gl:BU) (name:String) (k:IntKind) (zs:List Int):Prop:=∃ g e fr,P.globalNamed name=some g∧gl g=some ((zs.map fun z=>Value.int k z).toArray,e,fr)
theorem Ox.is {gl:BU} {name:String} {k:IntKind} {zs:List Int} {h:Heap} {n:K4} {φ:B0} {w:World} (t:Ox P gl name k zs) (hgl:ρ.gl=gl) (g:Gam ρ B h n φ w):Lib.TabIs P w name k zs:=by
 obtain ⟨b,e,fr,h1,h2⟩:=t
 obtain ⟨_,h3⟩:=g.glob b _ e fr (by rw [hgl]; exact h2)
 unfold Lib.TabIs World.var?
 rw [h1,Option.bind_some,h3]
def Rw (w:World) (l:List Nat):BU:=fun b=>if b∈l then (match w.heap[b]? with | some (.cells c e fr)=>some (c,e,fr) | _=>none) else none
theorem SE {P:Program} {fs:List Nat} {w:World} {l:List Nat}:Rs (Kd P fs (Rw w l)) w:=fun b c e fr h=>by
 have h:Rw w l b=some (c,e,fr):=h
 unfold Rw at h
 split at h
 ·split at h
  ·rename_i c' e' fr' hw
   cases h
   refine ⟨?_,hw⟩
   rcases Nat.lt_or_ge b w.heap.size with hb | hb
   ·exact hb
   ·rw [Array.getElem?_eq_none hb] at hw; cases hw
  ·cases h
 ·cases h
theorem Ox.of {w:World} {l:List Nat} {g:Nat} {name:String} {k:IntKind} {zs:List Int} (hg:P.globalNamed name=some g) (hl:g∈l) (h:Lib.TabIs P w name k zs):Ox P (Rw w l) name k zs:=by
 unfold Lib.TabIs World.var? at h
 rw [hg,Option.bind_some] at h
 split at h
 ·rename_i c e fr hw
  cases h
  refine ⟨g,e,fr,hg,?_⟩
  unfold Rw
  rw [if_pos hl,hw]
 ·cases h
def TW (m:Nat):Nat->Nat:=@Nat.rec (fun _=>Nat->Nat) (fun _=>1) (fun _ ih u=>br (Nat.ble (Nat.succ u) 10) 1 (Nat.succ (ih (Nat.div u 10)))) m
theorem OM:∀ (m u:Nat),u<10 ^ (m+1)->TW m u=Lib.nDigits u
 | 0,u,h=>by rw [Lib.nDigits_small (by simpa using h)]; rfl
 | m+1,u,h=>by
  have e:TW (m+1) u=br (Nat.ble (Nat.succ u) 10) 1 (Nat.succ (TW m (u / 10))):=rfl
  rw [e]
  by_cases hu:u<10
  ·rw [Al.2 (by omega),AI,Lib.nDigits_small hu]
  ·rw [Bg (by omega),AH,Lib.nDigits_big hu,OM m (u / 10) (by rw [Nat.pow_succ] at h; omega)]
theorem OB {u:Nat} (h:u<18446744073709551616):Lib.nDigits u≤20:=by
 rw [←OM 19 u (by omega)]
 have:∀ (m u:Nat),TW m u≤m+1:=by
  intro m
  induction m with
  | zero=>intro u; exact Nat.le_refl _
  | succ m ih =>
   intro u
   have e:TW (m+1) u=br (Nat.ble (Nat.succ u) 10) 1 (Nat.succ (TW m (u / 10))):=rfl
   rw [e]
   cases Nat.ble (Nat.succ u) 10 with
   | true=>show 1≤_; omega
   | false=>have:=ih (u / 10); show Nat.succ _≤_; omega
 exact this 19 u
def HQ:HY:=fun args h n =>
 HX args fun x l=>Pl l (FJ x fun k r=>br (Bi k .u64) (br (Nat.ble 1 r) (Ah (TW 19 r) fun i=>.rv (.int .i64 i) h n) (.fail "")) (.fail ""))
def MD (P:Program) (f:FuncId):Prop:=∀ (u:Nat),1≤u->u<18446744073709551616->∀ w:World,Lib.TabIs P w "internal/strconv.uint64pow10" .u64 Lib.pow10Tab->Calls P f #[.int .u64 u] w fun e w'=>e = .returned (.int .i64 (Lib.nDigits u))∧w'=w
theorem Lt {f:FuncId} {fn:Func} {gl:BU} (hf:P.funcs[f]? = some fn) (hb:fn.body.isSome=true) (hn:(fn.name == "runtime.NumGoroutine")=false) (hS:MD P f) (hgl:ρ.gl=gl) (ht:Ox P gl "internal/strconv.uint64pow10" .u64 Lib.pow10Tab):H6 P ρ B f HQ:=by
 intro args h n v h1 n1 hx φ w xs g hr
 have hg:(HQ args h n).good:=by rw [hx]; trivial
 unfold HQ at hx hg
 obtain ⟨x,l,rfl,q1⟩:=EF hg
 rw [q1] at hx hg
 obtain ⟨rfl,q2⟩:=Ht hg
 rw [q2] at hx
 obtain ⟨k,r,rfl,hx⟩:=O1 hx
 obtain ⟨hk,hx⟩:=M0 hx
 obtain rfl:=Ba.1 hk
 obtain ⟨h1',hx⟩:=M0 hx
 have h1':=Al.1 h1'
 rw [Af] at hx
 cases hx
 obtain ⟨X,ys,hX,r0,hr⟩:=AD.1 hr
 obtain rfl:=AL.1 hr
 obtain ⟨hlt,rfl⟩:=C4 r0
 have hlt:r<18446744073709551616:=hlt
 have hxs:xs = #[.int .u64 (BG .u64 r)]:=by cases xs; simp at hX; rw [hX]
 subst hxs
 rw [show BG .u64 r=(r:Int) from At (by simp only [Hk]; exact hlt)]
 obtain ⟨c,hc⟩:=Option.isSome_iff_exists.1 hb
 refine KC hf hc hn ((hS r h1' hlt w (ht.is hgl g)).mono fun e w' ⟨he,hw⟩=>⟨_,he,?_⟩)
 subst hw
 refine ⟨φ,Fr.refl h φ n _,g,?_⟩
 rw [OM 19 r (by omega)]
 have:=OB hlt
 simp only [AF]
 generalize Lib.nDigits r=d at this
 exact ⟨by simp only [Mk]; omega,congrArg (Value.int .i64) (At (k:=.i64) (by simp only [Hk]; omega)).symm⟩
end
theorem IK {P:Program} {w:World}:∀ {l:List (String×DataW Unit)} {ps:List MemPlace},DataW.LaidVars P w l ps->∀ {name:String} {d:DataW Unit},(name,d)∈l →
  ∃ g t cs fuel p,P.globalNamed name=some g∧(P.globals[g]?).map (·.type)=some t∧w.var? P name=some cs∧DataW.trod (fun _=>()) P w 0 (fun _=>true) false fuel t cs.toList=some (d,p)
 | [],_,_,_,_,hm=>by cases hm
 | (n,d)::r,ps,h,name,d',hm=>by
  obtain ⟨g,t,cs,fuel,p,q,h1,h2,h3,h4,h5,_⟩:=h
  rcases List.mem_cons.1 hm with e | e
  ·cases e; exact ⟨g,t,cs,fuel,p,h1,h2,h3,h4⟩
  ·exact IK h5 e
theorem Mq {P:Program} {W:World} {name:String} {k:IntKind} {zs:List Int} {l:List (String×DataW Unit)} {g:Nat} {t e:TypeId} {n:Nat}
  (hg:P.globalNamed name=some g) (hty:(P.globals[g]?).map (·.type)=some t) (ht:P.underlying t=some (.array n e)) (he:P.underlying e=some (.int k)) (hce:P.cellsOf e=1) (hct:P.cellsOf t=n)
  (hm:(name,Lib.tabData k zs)∈l) (h:laidMet P l W):Lib.TabIs P W name k zs:=by
 obtain ⟨ps,hv,_⟩:=h
 obtain ⟨g',t',cs,fuel,p,hg',ht',hvar,hd⟩:=IK hv hm
 obtain rfl:=Option.some.inj (hg.symm.trans hg')
 obtain rfl:=Option.some.inj (hty.symm.trans ht')
 unfold Lib.TabIs
 rw [hvar,←Lib.cells_of_tab ht he hce hct hd]
end Go.Ev

namespace Go.Ev
set_option linter.unusedVariables false
open Go.RowKit
def QO (x y:V):Bool :=
 @V.rec (fun _=>Bool) (fun _=>Unit) (fun k r=>@V.rec (fun _=>Bool) (fun _=>Unit) (fun j b=>br (Bi k j) (Nat.beq r b) false) (fun _=>false) (fun _ _=>false) (fun _ _ _ _ _ _=>false) (fun _ _=>false) (fun _ _=>false) (fun _=>false) (fun _=>false) (fun _ _ _=>false) (fun _ _=>false) (fun _=>false) () (fun _ _ _ _=>()) y)
  (fun p=>@V.rec (fun _=>Bool) (fun _=>Unit) (fun _ _=>false) (fun q=>br p q (br q false true)) (fun _ _=>false) (fun _ _ _ _ _ _=>false) (fun _ _=>false) (fun _ _=>false) (fun _=>false) (fun _=>false) (fun _ _ _=>false) (fun _ _=>false) (fun _=>false) () (fun _ _ _ _=>()) y)
  (fun _ _=>false) (fun _ _ _ _ _ _=>false)
  (fun n c=>@V.rec (fun _=>Bool) (fun _=>Unit) (fun _ _=>false) (fun _=>false) (fun _ _=>false) (fun _ _ _ _ _ _=>false) (fun m d=>br (Nat.beq n m) (Nat.beq c d) false) (fun _ _=>false) (fun _=>false) (fun _=>false) (fun _ _ _=>false) (fun _ _=>false) (fun _=>false) () (fun _ _ _ _=>()) y)
  (fun _ _=>false) (fun _=>false) (fun _=>false) (fun _ _ _=>false) (fun _ _=>false) (fun _=>false) () (fun _ _ _ _=>()) x
def Nj (v:V):Prop:=∀ (ρ:Env) (φ φ':B0) x,AF ρ φ v x->AF ρ φ' v x
theorem Rr {c x:Bool} (h:br c x false=true):c=true∧x=true:=by cases c; cases h; exact ⟨rfl,h⟩
theorem P0 {x y:V} (h:QO x y=true):x=y∧Nj x:=by
 cases x with
 | int k r=>cases y with
  | int j b =>
   obtain ⟨h1,h2⟩:=Rr (show br (Bi k j) (Nat.beq r b) false=true from h)
   rw [Ba.1 h1,Nat.eq_of_beq_eq_true h2]
   exact ⟨rfl,fun ρ φ φ' x hx=>by simpa only [AF] using hx⟩
  | _=>cases h
 | bool p=>cases y with
  | bool q =>
   have h:br p q (br q false true)=true:=h
   have:p=q:=by cases p <;> cases q <;> first | rfl | cases h
   rw [this]
   exact ⟨rfl,fun ρ φ φ' x hx=>by simpa only [AF] using hx⟩
  | _=>cases h
 | str n c=>cases y with
  | str m d =>
   obtain ⟨h1,h2⟩:=Rr (show br (Nat.beq n m) (Nat.beq c d) false=true from h)
   rw [Nat.eq_of_beq_eq_true h1,Nat.eq_of_beq_eq_true h2]
   exact ⟨rfl,fun ρ φ φ' x hx=>by simpa only [AF] using hx⟩
  | _=>cases h
 | _=>cases h
def MK (l:List V):List V->Bool :=
 @List.rec V (fun _=>List V->Bool) (fun r=>@List.rec V (fun _=>Bool) true (fun _ _ _=>false) r) (fun x _ ih r=>@List.rec V (fun _=>Bool) false (fun y r _=>br (QO x y) (ih r) false) r) l
theorem Ni:∀ {l r:List V},MK l r=true->l=r ∧ ∀ x∈l,Nj x
 | [],[],_=>⟨rfl,fun x hx=>by cases hx⟩
 | [],_::_,h=>by cases h
 | _::_,[],h=>by cases h
 | x::l,y::r,h=>by
  obtain ⟨h1,h2⟩:=Rr (show br (QO x y) (MK l r) false=true from h)
  obtain ⟨rfl,p⟩:=P0 h1
  obtain ⟨rfl,q⟩:=Ni h2
  exact ⟨rfl,fun z hz=>by
   rcases List.mem_cons.1 hz with rfl | hz
   ·exact p
   ·exact q z hz⟩
def Zh (v:V) (r:R):Bool:=@R.rec (fun _=>Bool) (fun _ _ _ _=>false) (fun u _ _=>QO u v) (fun _=>false) (fun _ _ _ _=>false) r
theorem TE {v:V} {r:R} (h:Zh v r=true):(∃ h1 n1,r = .rv v h1 n1)∧Nj v:=by
 cases r with
 | rv u h1 n1=>obtain ⟨rfl,p⟩:=P0 (show QO u v=true from h); exact ⟨⟨h1,n1,rfl⟩,p⟩
 | _=>cases h
abbrev MZ:=List (List V×V)
def Iw (l:MZ):HY :=
 @List.rec (List V×V) (fun _=>HY) (BR "") (fun e _ ih args h n=>@Prod.rec (List V) V (fun _=>R) (fun a v=>br (MK args a) (.rv v h n) (ih args h n)) e) l
theorem NA:∀ {l:MZ} {args:List V} {h:Heap} {n:K4} {v:V} {h1:Heap} {n1:K4},Iw l args h n = .rv v h1 n1->h1=h∧n1=n∧(args,v)∈l ∧ ∀ x∈args,Nj x
 | [],args,h,n,v,h1,n1,hx=>by cases hx
 | (a,u)::l,args,h,n,v,h1,n1,hx=>by
  have e0:Iw ((a,u)::l) args h n=br (MK args a) (R.rv u h n) (Iw l args h n):=rfl
  rw [e0] at hx
  clear e0
  cases hb:MK args a with
  | true =>
   rw [hb,AI] at hx
   obtain ⟨e1,p⟩:=Ni hb
   cases hx
   exact ⟨rfl,rfl,by rw [e1]; exact List.mem_cons_self ..,p⟩
  | false =>
   rw [hb] at hx
   obtain ⟨h1,h2,h3,h4⟩:=NA (show Iw l args h n=_ from hx)
   exact ⟨h1,h2,List.mem_cons_of_mem _ h3,h4⟩
def GW (T:FC) (m:Nat) (f:FuncId) (l:MZ):Prop:=∀ a v,(a,v)∈l->Zh v (C7 T m (B8 f) a AM Ko)=true
theorem Js {T:FC} {m:Nat} {f:FuncId}:GW T m f []:=fun a v h=>by cases h
theorem Bh {T:FC} {m:Nat} {f:FuncId} {a:List V} {v:V} {l:MZ} (h:Zh v (C7 T m (B8 f) a AM Ko)=true) (k:GW T m f l):GW T m f ((a,v)::l):=fun a' v' h'=>by
 rcases List.mem_cons.1 h' with e | e
 ·cases e; exact h
 ·exact k a' v' e
section
variable {P:Program} {ρ:Env} {B:Nat}
theorem Gam.below {h:Heap} {n:K4} {φ:B0} {w w':World} (g:Gam ρ B h n φ w) (b:Below w.heap.size w w'):Gam ρ B h n φ w'∧Fr h h φ φ n n w w':=by
 obtain ⟨b1,b2,b3,b4,b5⟩:=b
 refine ⟨⟨Nat.le_trans g.base b4,g.dom,fun p b s t hp=>⟨(g.blk p b s t hp).1,Nat.lt_of_lt_of_le (g.blk p b s t hp).2 b4⟩,fun p o b s t ho hp=>C1 (b5 b (g.blk p b s t hp).2) (g.obj p o b s t ho hp),g.sep,g.sup,
  fun b c e fr hb=>⟨(g.glob b c e fr hb).1,by rw [b5 b (Nat.lt_of_lt_of_le (g.glob b c e fr hb).1 g.base)]; exact (g.glob b c e fr hb).2⟩⟩,
  ⟨B0.le_refl φ,fun _ _ h=>.inl h,Nat.le_refl _,b1,b2,b3,b4,fun b hb _=>b5 b hb,fun _ _ _ _ h=>.inl h,fun _ _ h=>h⟩⟩
theorem Jy {φ φ':B0}:∀ {l:List V} {xs:List Value},(∀ x∈l,Nj x)->Bs ρ φ l xs->Bs ρ φ' l xs
 | [],xs,_,h=>by rw [AL] at h ⊢; exact h
 | v::l,xs,p,h=>by
  rw [AD] at h ⊢
  obtain ⟨y,ys,e,h1,h2⟩:=h
  exact ⟨y,ys,e,p v (List.mem_cons_self ..) ρ φ φ' y h1,Jy (fun x hx=>p x (List.mem_cons_of_mem _ hx)) h2⟩
theorem Mt (hρ:Bn ρ) (hm:P.follows .mixedOrders=true) {T:FC} (hT:∀ B,GI P ρ B T) {m:Nat} {f:FuncId} {l:MZ} (hl:GW T m f l):H6 P ρ B f (Iw l):=by
 intro args h n v h1 n1 hx φ w xs g hr
 obtain ⟨rfl,rfl,hmem,hp⟩:=NA hx
 obtain ⟨⟨h2,n2,hc⟩,hv⟩:=TE (hl _ _ hmem)
 intro o a K Q hK
 refine N6 (B:=w.heap.size) hρ hm (hT _) m f args AM Ko _ h2 n2 hc (fun _=>none) w xs (Lg w Ko fun b c e fr hb=>⟨Nat.lt_of_lt_of_le (g.glob b c e fr hb).1 g.base,(g.glob b c e fr hb).2⟩) (Jy hp hr) o a K Q fun x w' ⟨φ',f1,_,hr1⟩=>hK x w' ?_
 obtain ⟨g2,f2⟩:=g.below (IC f1)
 exact ⟨φ,f2,g2,hv ρ φ' φ x hr1⟩
end
theorem TT {a:Int} (h:(Lit.int .i64 a).wf=true) : -9223372036854775808≤a∧a<9223372036854775808:=by
 simp [Lit.wf,IntKind.min,IntKind.max,IntKind.signed,IntKind.bits] at h
 omega
theorem Qe {ρ:Env} {φ:B0} {a:Int} {lo:Nat} (h:(lo:Int)≤a) (h2:a<9223372036854775808):AF ρ φ (.oth (.iv .i64 lo 9223372036854775807)) (.int .i64 a):=by
 simp only [AF]
 refine ⟨a.toNat,by omega,by omega,by simp only [Mk]; omega,?_⟩
 rw [At (by simp only [Hk]; omega)]
 congr 1; omega
theorem Oh {ρ:Env} {φ:B0} {a:Int} (h:a<0) (h2 : -9223372036854775808≤a):AF ρ φ (.oth (.iv .i64 9223372036854775808 18446744073709551615)) (.int .i64 a):=by
 simp only [AF]
 refine ⟨(a+18446744073709551616).toNat,by omega,by omega,by simp only [Mk]; omega,?_⟩
 rw [CG (by simp only [Hk]; omega)]
 congr 1; simp only [Mk]; omega
end Go.Ev
