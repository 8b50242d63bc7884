/- AN EVALUATOR OF THE MODEL OF Go, PROVED SOUND, PART 4: what it says of a call holds in every world, on every tape. Conditions: none of its own; each theorem bears its premises. -/
import Derived.Test.YtbjghkngijepbaaGreatDoorSAEv3
import Derived.ChangeSame
import Derived.Deep.Slices
import Derived.Shelf.Strconv.Itoa1
import GoSem.ClaimGoes
noncomputable section
set_option linter.unusedSimpArgs false
set_option linter.unusedVariables false
namespace Go.Ev
set_option linter.unusedVariables false
abbrev HP:=Ren->S->Heap->K4->R
abbrev r0:HP:=fun _ t h n=>.ok .nrm t h n
def AC.ends (c:AC):Bool:=@AC.rec (fun _=>Bool) false (fun _ _ x y=>or x y) (fun _=>false) (fun _ _=>false) (fun _ _ _ x y=>and x y) (fun _ _ _=>false) (fun _ _=>true) (fun _=>true) true (fun _=>true) (fun _ _ _ _=>false) c
def AQ (r:R) (κ:S->Heap->K4->R):R :=
 @R.rec (fun _=>R) (fun e t h n=>@Ex.rec (fun _=>R) (κ t h n) (fun id=>.ok (.exit id) t h n) (.ok .ret t h n) e) (BU "") (fun w=>.fail w) (fun _ _ a b=>.both a b) r
def Ad (id:Nat) (r:R) (κ:S->Heap->K4->R):R :=
 @R.rec (fun _=>R) (fun e t h n=>@Ex.rec (fun _=>R) (κ t h n) (fun j=>br (Nat.beq j id) (κ t h n) (.ok (.exit j) t h n)) (.ok .ret t h n) e) (BU "") (fun w=>.fail w) (fun _ _ a b=>.both a b) r
def AB (body:S->Heap->K4->R):S->Heap->K4->R:=En body 1000000000
def EB (n:K4) (κ:K4->K4->R):R:=n.nx16 fun b=>b.nx16 fun n=>κ b n
abbrev Pb (al:Bool) (n:K4) (κ:K4->K4->R):R:=UA al (EB n κ) (κ n n)
abbrev LP (ea eb:Bool) (v:V) (a b:HP->HP) (rest:HP) (env:Ren) (t:S) (h:Heap) (n:K4):R :=
 UA ea (Ao v (a r0 env t h n) (b rest env t h n)) (UA eb (Ao v (a rest env t h n) (b r0 env t h n)) (AQ (Ao v (a r0 env t h n) (b r0 env t h n)) fun t h n=>rest [] t h n))
abbrev Gy (sm:SM) (cf:FK) (c:AC):HP->HP :=
 @AC.rec (fun _=>HP->HP) (fun rest=>rest) (fun _ _ a b rest=>a (b rest)) (fun l rest env t h n=>CI sm cf l env t h n rest)
  (fun al l rest env t h n=>Pb al n fun b n=>D8 sm cf b l env t h h n fun env t _ h n=>rest env t h n)
  (fun c x y a b rest env t h n=>Bg sm env t c fun v=>LP x.ends y.ends v a b rest env t h n)
  (fun id _ b rest env t h n=>Ad id (b r0 env t h n) fun t h n=>rest [] t h n)
  (fun _ b _ _ t h n=>AB (fun t h n=>b r0 [] t h n) t h n) (fun id _ _ t h n=>.ok (.exit id) t h n) (fun _ _ t h n=>.ok .ret t h n) (Dm "")
  (fun pre sp d post rest env t h n=>CI sm cf pre env t h n fun env t h n=>UU cf sp (Bg sm env t) h n fun v h n=>CM sm d t v fun t=>CI sm cf post (BG d v env) t h n rest) c
def DK (sm:SM) (dom:List K2) (c:Opd):Bool:=@Opd.rec (fun _=>Bool) (fun p=>IX sm dom p) (fun _=>true) c
def PM (sm:SM) (dom:List K2) (sp:Sp):Bool:=@Sp.rec (fun _=>Bool) (fun x=>DK sm dom x) (fun x=>DK sm dom x) (fun x=>DK sm dom x) (fun _ l=>l.all (DK sm dom)) (fun x l=>DK sm dom x&&l.all (DK sm dom)) sp
def EU (sm:SM) (c:AC):(List K2->Bool)->List K2->Bool :=
 @AC.rec (fun _=>(List K2->Bool)->List K2->Bool) (fun r=>r) (fun _ _ a b r=>a (b r)) (fun l r dom=>FU sm l dom&&r (CC l dom))
  (fun al l r dom=>HN sm l dom&&r (I5 l dom))
  (fun c x y a b r dom=>DK sm dom c&&br x.ends (a (fun _=>true) dom&&b r dom) (br y.ends (a r dom&&b (fun _=>true) dom) (a (fun _=>true) dom&&(b (fun _=>true) dom&&r []))))
  (fun id _ b r dom=>b (fun _=>true) dom&&r []) (fun _ b _ _=>b (fun _=>true) []) (fun _ _ _=>true) (fun _ _=>true) (fun _ _ _=>true)
  (fun pre sp d post r dom=>FU sm pre dom&&(PM sm (CC pre dom) sp&&(FU sm post (FE d (CC pre dom))&&r (CC post (FE d (CC pre dom)))))) c
section
variable {P:Program} {ρ:Env} {B N:Nat} {cf:CF} {cf2:FK} {sm:SM}
def PS (κ:S->Heap->K4->R) (Φ:R->Prop):R->Prop
 | .ok .nrm t h n=>(κ t h n).sat Φ
 | .ok e t h n=>Φ (.ok e t h n)
 | _=>False
theorem DO {κ:S->Heap->K4->R} {Φ:R->Prop}:∀ {r:R},(AQ r κ).sat Φ->r.sat (PS κ Φ)
 | .ok e t h n,hs=>by cases e <;> exact hs
 | .rv _ _ _,hs=>hs.elim
 | .fail _,hs=>hs.elim
 | .both a b,hs=>⟨DO (r:=a) hs.1,DO (r:=b) hs.2⟩
theorem U7 {body:S->Heap->K4->R} {k:Nat} {Φ:R->Prop} {t:S} {h:Heap} {n:K4} (hs:(En body (k+1) t h n).sat Φ):(body t h n).sat (PS (En body k) Φ):=by
 have e:En body (k+1) t h n=@R.rec (fun _=>R) (fun e t h n=>@Ex.rec (fun _=>R) (En body k t h n) (fun id=>.ok (.exit id) t h n) (.ok .ret t h n) e) (BU "") (fun w=>.fail w) (fun _ _ a b=>.both a b) (body t h n):=rfl
 rw [e] at hs
 generalize body t h n=r at hs
 clear e
 induction r with
 | ok e t h n=>cases e <;> exact hs
 | rv _ _ _=>exact hs.elim
 | fail _=>exact hs.elim
 | both a b iha ihb=>exact ⟨iha hs.1,ihb hs.2⟩
def Ww (id:Nat) (κ:S->Heap->K4->R) (Φ:R->Prop):R->Prop
 | .ok .nrm t h n=>(κ t h n).sat Φ
 | .ok (.exit j) t h n=>(j=id∧(κ t h n).sat Φ)∨(j≠id∧Φ (.ok (.exit j) t h n))
 | .ok .ret t h n=>Φ (.ok .ret t h n)
 | _=>False
theorem FG {id:Nat} {κ:S->Heap->K4->R} {Φ:R->Prop}:∀ {r:R},(Ad id r κ).sat Φ->r.sat (Ww id κ Φ)
 | .ok e t h n,hs=>by
  cases e with
  | nrm=>exact hs
  | ret=>exact hs
  | exit j =>
   have hs:(br (Nat.beq j id) (κ t h n) (R.ok (.exit j) t h n)).sat Φ:=hs
   cases hj:Nat.beq j id with
   | true=>rw [hj] at hs; exact .inl ⟨Nat.eq_of_beq_eq_true hj,hs⟩
   | false=>rw [hj] at hs; exact .inr ⟨fun e=>by subst e; simp at hj,hs⟩
 | .rv _ _ _,hs=>hs.elim
 | .fail _,hs=>hs.elim
 | .both a b,hs=>⟨FG (r:=a) hs.1,FG (r:=b) hs.2⟩
def Sv (P:Program) (ρ:Env) (B N:Nat) (sm:SM) (C:Code) (t:Regs) (h:Heap) (n:K4) (Φ:R->Prop):Prop :=
 ∀ φ a w,TR ρ N φ t a->Gam ρ B h n φ w->∀ (Q:Exit->Act->World->Prop),
  (∀ e t1 h1 n1,Φ (.ok e t1 h1 n1)->∀ φ' a' w' tf,Fr h h1 φ φ' n n1 w w'->Gam ρ B h1 n1 φ' w'->TR ρ N φ' tf a'->(∀ p s,BF p sm=some s->S.get s t1=Bc p tf)->Q (Iq e) a' w')->C.wp P Q a w
def RR (P:Program) (ρ:Env) (B N:Nat) (sm:SM) (cf2:FK) (C:Code):Prop :=
 ∀ (rest:HP) (rOk:List K2->Bool) (dom:List K2) (env:Ren) (t:Regs) (t':S) (h:Heap) (n:K4) (Φ:R->Prop),
  EU sm (AH P N C) rOk dom=true->RI sm dom env t t'->(Gy sm cf2 (AH P N C) rest env t' h n).sat Φ →
  ∀ φ a w,TR ρ N φ t a->Gam ρ B h n φ w->∀ (Q:Exit->Act->World->Prop),
   (∀ e t1 h1 n1,Φ (.ok e t1 h1 n1)->e ≠ .nrm->∀ φ' a' w' tf,Fr h h1 φ φ' n n1 w w'->Gam ρ B h1 n1 φ' w'->TR ρ N φ' tf a'->(∀ p s,BF p sm=some s->S.get s t1=Bc p tf)->Q (Iq e) a' w') →
   ((AH P N C).ends=false->∀ dom2 env2 t2 t2' h2 n2,rOk dom2=true->RI sm dom2 env2 t2 t2'->(rest env2 t2' h2 n2).sat Φ->∀ φ2 a2 w2,Fr h h2 φ φ2 n n2 w w2->Gam ρ B h2 n2 φ2 w2->TR ρ N φ2 t2 a2->Q .normal a2 w2) →
   C.wp P Q a w
theorem RR.join {C:Code} (H:RR P ρ B N sm cf2 C) {dom:List K2} {env:Ren} {t:Regs} {t':S} {h:Heap} {n:K4} {Φ:R->Prop} (hok:EU sm (AH P N C) (fun _=>true) dom=true) (ri:RI sm dom env t t')
  (hx:(Gy sm cf2 (AH P N C) r0 env t' h n).sat Φ):Sv P ρ B N sm C t h n Φ:=by
 intro φ a w hT g Q hQ
 refine H r0 _ dom env t t' h n Φ hok ri hx φ a w hT g Q (fun e t1 h1 n1 hΦ _ φ' a' w' tf f1 g1 T1 hk=>hQ e t1 h1 n1 hΦ φ' a' w' tf f1 g1 T1 hk) fun _ dom2 env2 t2 t2' h2 n2 _ ri2 hr φ2 a2 w2 f2 g2 T2=>?_
 have hr:Φ (R.ok .nrm t2' h2 n2):=hr
 exact hQ _ _ _ _ hr φ2 a2 w2 t2 f2 g2 T2 ri2.keep
theorem TD {o:Oper} {d:Option K2} (h:VD N o=some d):QE N o.dst d:=by
 unfold VD at h
 cases hd:o.dst with
 | none=>rw [hd] at h; cases h; trivial
 | some s =>
  rw [hd] at h
  obtain ⟨p,hp,rfl⟩:=Aq h
  exact Dc hp
theorem LN {ops:Array Oper}:∀ {l:List Oper} {pre:List AOp} {sp:Sp} {d:Option K2} {post:List AOp},L6 P N ops l=some (pre,sp,d,post) →
  ∃ l1 o l2,l=l1++o::l2∧Gl P N ops l1=some pre∧XY P N o=some sp∧o.guard=none∧QE N o.dst d∧Gl P N ops l2=some post
 | [],pre,sp,d,post,h=>by cases h
 | o::l,pre,sp,d,post,h=>by
  unfold L6 at h
  split at h
  ·rename_i sp' hsp
   split at h
   ·rename_i d' post' hg hd hp
    cases h
    exact ⟨[],o,l,rfl,rfl,hsp,hg,TD hd,hp⟩
   ·cases h
  ·split at h
   ·cases h
   ·rename_i r hr
    split at h
    ·rename_i x hx
     obtain ⟨pre',sp',d',post'⟩:=r
     cases h
     obtain ⟨l1,o',l2,rfl,h1,h2,h3,h4,h5⟩:=LN hr
     refine ⟨o::l1,o',l2,rfl,?_,h2,h3,h4,h5⟩
     simp only [Gl,hx,h1]
    ·cases h
theorem Xe {cf:CF} {cf2:FK} (hcf:G6 P ρ B cf) (hR:FH P ρ B cf) (h2:∀ f,cf2 (Bb f)=cf f) {o:Oper} {sp:Sp} (hc:XY P N o=some sp) {t:Regs} {h:Heap} {n:K4}:UZ P ρ B N o t h n (UU cf2 sp (fun x κ=>κ (ev x t)) h n):=by
 have tl:∀ (l:List Opd) (κ:List V->R),Fi (fun x κ=>κ (ev x t)) l κ=κ (l.map (ev · t)):=fun l κ=>Fd (fun x _ κ=>rfl)
 unfold XY at hc
 split at hc
 ·rename_i ty x ho
  split at hc
  ·rename_i kt e ht
   obtain ⟨x',hx,rfl⟩:=Aq hc
   exact (QT ho hx ht).sp.in_
  ·cases hc
 ·rename_i x s ho
  split at hc
  ·cases hc
  ·rename_i hs
   obtain ⟨x',hx,rfl⟩:=Aq hc
   have:s=false:=by simpa using hs
   subst this
   exact (Vo ho hx).in_
 ·rename_i x ho
  obtain ⟨x',hx,rfl⟩:=Aq hc
  exact (QJ ho hx).sp.in_
 ·rename_i ct ho
  split at hc
  ·rename_i f hcal
   split at hc
   ·obtain ⟨l,hl,rfl⟩:=Aq hc
    have e:UU cf2 (.tcl f l) (fun x κ=>κ (ev x t)) h n=fun κ=>De (cf2 (Bb f) (l.map (ev · t)) h n) κ:=by
     funext κ
     exact tl l _
    rw [e]
    exact (Vq hcf h2 ho hcal hl).in_
   ·cases hc
  ·rename_i s hcal
   split at hc
   ·rename_i x l hx hl
    cases hc
    have e:UU cf2 (.dcl x l) (fun x κ=>κ (ev x t)) h n=fun κ=>JI cf2 (ev x t) (l.map (ev · t)) h n κ:=by
     funext κ
     exact tl l _
    rw [e]
    exact Ve hcf hR h2 ho hcal hx hl
   ·cases hc
  ·cases hc
 ·cases hc
theorem Su (hρ:Bh ρ) (hm:P.follows .mixedOrders=true) (hct:G6 P ρ B cf) (hR:FH P ρ B cf) (h2:∀ f,cf2 (Bb f)=cf f):∀ C:Code,RR P ρ B N sm cf2 C:=by
 have hcf:=hct.ok
 intro C
 induction C with
 | skip=>intro rest rOk dom env t t' h n Φ hok ri hx φ a w hT g Q hex hre; exact wp_skip (hre rfl dom env t t' h n hok ri hx φ a w (Fr.refl h φ n w) g hT)
 | label l=>intro rest rOk dom env t t' h n Φ hok ri hx φ a w hT g Q hex hre; exact wp_label (hre rfl dom env t t' h n hok ri hx φ a w (Fr.refl h φ n w) g hT)
 | exit id =>
  intro rest rOk dom env t t' h n Φ hok ri hx φ a w hT g Q hex hre
  exact wp_exit (hex _ _ _ _ hx (fun h=>by cases h) φ a w t (Fr.refl h φ n w) g hT ri.keep)
 | ret =>
  intro rest rOk dom env t t' h n Φ hok ri hx φ a w hT g Q hex hre
  exact wp_ret (hex _ _ _ _ hx (fun h=>by cases h) φ a w t (Fr.refl h φ n w) g hT ri.keep)
 | region id ops draw =>
  intro rest rOk dom env t t' h n Φ hok ri hx φ a w hT g Q hex hre
  cases draw with
  | true =>
   have hok:EU sm (BS P N ops true) rOk dom=true:=hok
   have hx:(Gy sm cf2 (BS P N ops true) rest env t' h n).sat Φ:=hx
   have hre:(BS P N ops true).ends=false->_:=hre
   unfold BS at hok hx hre
   split at hx
   ·exact hx.elim
   ·rename_i os hos
    simp only [hos,if_true] at hok hre
    simp only [if_true] at hx
    split at hx
    ·rename_i hpl
     rw [if_pos hpl] at hok hre
     have hre:=hre rfl
     have good:=Plot.good_of_ok hpl
     have hok:(HN sm ((BP (ops.toList.map Ci) os).sk.map (JJ os)) dom&&rOk (I5 ((BP (ops.toList.map Ci) os).sk.map (JJ os)) dom))=true:=hok
     rw [Bool.and_eq_true] at hok
     have run:∀ (b n0:K4),(D8 sm cf2 b ((BP (ops.toList.map Ci) os).sk.map (JJ os)) env t' h h n0 (fun env t _ h n=>rest env t h n)).sat Φ →
       ((BP (ops.toList.map Ci) os).HasAl->b.d = .d0)->((BP (ops.toList.map Ci) os).HasAl->n.toN≤b.toN)->((BP (ops.toList.map Ci) os).HasAl->b.toN+16≤n0.toN)->n.toN≤n0.toN->(Code.region id ops true).wp P Q a w:=fun b n0 hx k1 k2 k3 k4=>by
      obtain ⟨st,env1,t1',s0,hst,ri1,e3⟩:=HY h2 (s:=⟨t,h,h,n0⟩) hok.1 ri (R.sat_good hx)
      have e3:D8 sm cf2 b ((BP (ops.toList.map Ci) os).sk.map (JJ os)) env t' h h n0 (fun env t _ h n=>rest env t h n)=_:=e3
      rw [e3,List.length_map] at hx
      rw [List.length_map] at ri1
      have r:Rn P N ops os (BP (ops.toList.map Ci) os) cf b st:=⟨good,hos,rfl,fun l x hlx=>hst l _ (by rw [List.getElem?_map,hlx]; rfl)⟩
      refine QL (φ:=φ) hρ hm hcf r s0 k1 k2 k3 k4 hT g fun φ' a' w' f1 g1 T1=>?_
      exact hre _ env1 _ t1' _ _ hok.2 ri1 hx φ' a' w' f1 g1 T1
     have hx:(Pb ((BP (ops.toList.map Ci) os).sk.any SI.isAl) n (fun b n=>D8 sm cf2 b ((BP (ops.toList.map Ci) os).sk.map (JJ os)) env t' h h n fun env t _ h n=>rest env t h n)).sat Φ:=hx
     cases hal:(BP (ops.toList.map Ci) os).sk.any SI.isAl with
     | false =>
      have hn:=Zj good hal
      rw [hal] at hx
      exact run n n hx (fun h=>absurd h hn) (fun h=>absurd h hn) (fun h=>absurd h hn) (Nat.le_refl _)
     | true =>
      rw [hal] at hx
      have hx:(n.nx16 (fun b=>b.nx16 fun n0=>D8 sm cf2 b ((BP (ops.toList.map Ci) os).sk.map (JJ os)) env t' h h n0 fun env t _ h n=>rest env t h n)).sat Φ:=hx
      rcases K4.nx16_eq n (fun b=>b.nx16 fun n0=>D8 sm cf2 b ((BP (ops.toList.map Ci) os).sk.map (JJ os)) env t' h h n0 fun env t _ h n=>rest env t h n) with ⟨w',e1⟩ | ⟨b,hbn,hb0,e1⟩
      ·rw [e1] at hx; exact hx.elim
      ·rw [e1] at hx
       rcases K4.nx16_eq b (fun n0=>D8 sm cf2 b ((BP (ops.toList.map Ci) os).sk.map (JJ os)) env t' h h n0 fun env t _ h n=>rest env t h n) with ⟨w',e2⟩ | ⟨n0,hn0,_,e2⟩
       ·rw [e2] at hx; exact hx.elim
       ·rw [e2] at hx
        have hbn':=Re hbn hb0 hn0
        exact run b n0 hx (fun _=>hb0) (fun _=>hbn'.1) (fun _=>by omega) (by omega)
    ·exact hx.elim
  | false =>
   have hok:EU sm (match L6 P N ops ops.toList with | some r=>.spl r.1 r.2.1 r.2.2.1 r.2.2.2 | none=>BS P N ops false) rOk dom=true:=hok
   have hx:(Gy sm cf2 (match L6 P N ops ops.toList with | some r=>.spl r.1 r.2.1 r.2.2.1 r.2.2.2 | none=>BS P N ops false) rest env t' h n).sat Φ:=hx
   have hre:AC.ends (match L6 P N ops ops.toList with | some r=>.spl r.1 r.2.1 r.2.2.1 r.2.2.2 | none=>BS P N ops false)=false->_:=hre
   cases hspl:L6 P N ops ops.toList with
   | some r =>
    rw [hspl] at hok hx hre
    obtain ⟨pre,sp,d,post⟩:=r
    have hre:=hre rfl
    obtain ⟨l1,o,l2,hl,c1,c2,c3,c4,c5⟩:=LN hspl
    have hok:(FU sm pre dom&&(PM sm (CC pre dom) sp&&(FU sm post (FE d (CC pre dom))&&rOk (CC post (FE d (CC pre dom))))))=true:=hok
    rw [Bool.and_eq_true,Bool.and_eq_true,Bool.and_eq_true] at hok
    obtain ⟨k1,k2,k3,k4⟩:=hok
    have hx:(CI sm cf2 pre env t' h n fun env t h n=>UU cf2 sp (Bg sm env t) h n fun v h n=>CM sm d t v fun t=>CI sm cf2 post (BG d v env) t h n rest).sat Φ:=hx
    obtain ⟨env1,t2,t2',h2',n2,e2,ri1,H⟩:=Di (B:=B) (ops:=ops) hρ hcf h2 c1 k1 ri (R.sat_good hx)
    rw [e2] at hx
    refine (wpIn_wide (n:=0)).1 (wpIn_region_list ?_)
    rw [hl]
    refine DL (l:=none) (.inl rfl) (H φ a w hT g Q (wpListIn (Lt none) 0 P ops Q (o::l2)) fun φ' a' w' f1 g1 T1=>?_)
    have one:∀ x:Opd,DK sm (CC pre dom) x=true->∀ κ:V->R,Bg sm env1 t2' x κ=κ (ev x t2):=fun x hk κ=>by
     cases x with
     | c v=>rfl
     | t p=>exact ri1.tell hk κ
    have lst:∀ l:List Opd,l.all (DK sm (CC pre dom))=true->∀ κ:List V->R,Fi (Bg sm env1 t2') l κ=Fi (fun x κ=>κ (ev x t2)) l κ:=fun l hk κ=>by
     rw [Fd (t:=t2) (fun x hx=>one x (List.all_eq_true.1 hk x hx)),Fd (t:=t2) (fun x _ κ=>rfl)]
    have et:UU cf2 sp (Bg sm env1 t2') h2' n2=UU cf2 sp (fun x κ=>κ (ev x t2)) h2' n2:=by
     funext κ
     cases sp with
     | rng x=>exact one x k2 _
     | nxt x=>exact one x k2 _
     | ent x=>exact one x k2 _
     | tcl f l=>exact lst l k2 _
     | dcl x l =>
      have k2:(DK sm (CC pre dom) x&&l.all (DK sm (CC pre dom)))=true:=k2
      rw [Bool.and_eq_true] at k2
      exact (one x k2.1 _).trans (lst l k2.2 _)
    rw [et] at hx
    have hw:Region.wanted o (yielded ops a'.tmps)=true:=by simp [Region.wanted,c3]
    have st:=Xe (P:=P) (ρ:=ρ) (B:=B) hct hR h2 c2 _ Φ hx φ' a' w' T1 g1 (wpListIn (Lt none) 0 P ops Q l2) Q fun v h3 n3 hs φ2 x w2 f2 g2 r2=>by
     obtain ⟨t3',e3,ri3⟩:=ri1.put d v (fun t=>CI sm cf2 post (BG d v env1) t h3 n3 rest)
     have hs:(CM sm d t2' v fun t=>CI sm cf2 post (BG d v env1) t h3 n3 rest).sat Φ:=hs
     rw [e3] at hs
     obtain ⟨env4,t4,t4',h4,n4,e4,ri4,H4⟩:=Di (B:=B) (ops:=ops) hρ hcf h2 c5 k3 ri3 (R.sat_good hs)
     rw [e4] at hs
     have:=DL (l:=none) (n:=0) (r:=[]) (.inl rfl) (H4 φ2 _ w2 ((T1.mono f2.ext).puts c4 r2) g2 Q (wpListIn (Lt none) 0 P ops Q []) fun φ3 a3 w3 f3 g3 T3=>hre _ env4 t4 t4' h4 n4 k4 ri4 hs φ3 a3 w3 (Fr.trans f1 (Fr.trans f2 f3)) g3 T3)
     rwa [List.append_nil] at this
    show wpListIn (Lt none) 0 P ops Q (o::l2) a' w'
    simp only [wpListIn]
    rw [if_pos hw]
    exact st
   | none =>
   rw [hspl] at hok hx hre
   have hok:EU sm (BS P N ops false) rOk dom=true:=hok
   have hx:(Gy sm cf2 (BS P N ops false) rest env t' h n).sat Φ:=hx
   have hre:(BS P N ops false).ends=false->_:=hre
   unfold BS at hok hx hre
   split at hx
   ·exact hx.elim
   ·rename_i al hal
    simp only [hal,Bool.false_eq_true,if_false] at hok hre
    simp only [Bool.false_eq_true,if_false] at hx
    have hre:=hre rfl
    have hok:(FU sm al dom&&rOk (CC al dom))=true:=hok
    rw [Bool.and_eq_true] at hok
    have hx:(CI sm cf2 al env t' h n rest).sat Φ:=hx
    obtain ⟨env1,t2,t2',h2',n2,e2,ri1,H⟩:=Pz (B:=B) (ops:=ops) hρ hcf h2 hal hok.1 ri (R.sat_good hx)
    rw [e2] at hx
    exact wp_region_list (H φ a w hT g Q fun φ' a' w' f1 g1 T1=>hre _ env1 t2 t2' h2' n2 hok.2 ri1 hx φ' a' w' f1 g1 T1)
 | seq x y ihx ihy =>
  intro rest rOk dom env t t' h n Φ hok ri hx φ a w hT g Q hex hre
  have hok:EU sm (AH P N x) (EU sm (AH P N y) rOk) dom=true:=hok
  have hx:(Gy sm cf2 (AH P N x) (Gy sm cf2 (AH P N y) rest) env t' h n).sat Φ:=hx
  have hre:or (AH P N x).ends (AH P N y).ends=false->_:=hre
  refine wp_seq (ihx _ _ dom env t t' h n Φ hok ri hx φ a w hT g _ (fun e t1 h1 n1 hΦ hne φ' a' w' tf f1 g1 T1 hk=>?_) fun he dom2 env2 t2 t2' h2' n2 hok2 ri2 hr φ2 a2 w2 f2 g2 T2=>?_)
  ·have:=hex e t1 h1 n1 hΦ hne φ' a' w' tf f1 g1 T1 hk
   cases e with
   | nrm=>exact absurd rfl hne
   | exit id=>exact this
   | ret=>exact this
  ·exact ihy rest rOk dom2 env2 t2 t2' h2' n2 Φ hok2 ri2 hr φ2 a2 w2 T2 g2 Q (fun e t1 h1 n1 hΦ hne φ' a' w' tf f1 g1 T1 hk=>hex e t1 h1 n1 hΦ hne φ' a' w' tf (Fr.trans f2 f1) g1 T1 hk)
    fun he' dom3 env3 t3 t3' h3 n3 hok3 ri3 hr3 φ3 a3 w3 f3 g3 T3=>hre (by rw [he,he']; rfl) dom3 env3 t3 t3' h3 n3 hok3 ri3 hr3 φ3 a3 w3 (Fr.trans f2 f3) g3 T3
 | cond c x y ihx ihy =>
  intro rest rOk dom env t t' h n Φ hok ri hx φ a w hT g Q hex hre
  have hok:EU sm (match AT N c with | some c=>.cond c (AH P N x) (AH P N y) | none=>.bad "a test") rOk dom=true:=hok
  have hx:(Gy sm cf2 (match AT N c with | some c=>.cond c (AH P N x) (AH P N y) | none=>.bad "a test") rest env t' h n).sat Φ:=hx
  have hre:AC.ends (match AT N c with | some c=>.cond c (AH P N x) (AH P N y) | none=>.bad "a test")=false->_:=hre
  split at hx
  ·rename_i c' hc
   simp only [hc] at hok hre
   have hre:and (AH P N x).ends (AH P N y).ends=false->_:=hre
   have hok:(DK sm dom c'&&br (AH P N x).ends (EU sm (AH P N x) (fun _=>true) dom&&EU sm (AH P N y) rOk dom) (br (AH P N y).ends (EU sm (AH P N x) rOk dom&&EU sm (AH P N y) (fun _=>true) dom) (EU sm (AH P N x) (fun _=>true) dom&&(EU sm (AH P N y) (fun _=>true) dom&&rOk []))))=true:=hok
   rw [Bool.and_eq_true] at hok
   have hx:(Bg sm env t' c' (fun v=>LP (AH P N x).ends (AH P N y).ends v (Gy sm cf2 (AH P N x)) (Gy sm cf2 (AH P N y)) rest env t' h n)).sat Φ:=hx
   have e0:∀ κ:V->R,Bg sm env t' c' κ=κ (ev c' t):=fun κ=>by
    cases c' with
    | c v=>rfl
    | t p=>exact ri.tell hok.1 κ
   rw [e0] at hx
   have g1:=Aj hc hT
   generalize hv:ev c' t=v at hx g1
   obtain ⟨_,hok⟩:=hok
   unfold LP at hx
   -- the value is a bool
   have key:∀ (A C:R) (κ:R->R),(∀ s,κ (.fail s) = .fail s)->(∀ x y,κ (.both x y) = .both (κ x) (κ y))->(κ (Ao v A C)).sat Φ->∃ q,a.eval c = .bool q∧(κ (br q A C)).sat Φ:=fun A C κ hκ hb hh=>by
    have no:(κ (.fail "")).sat Φ->∃ q,a.eval c = .bool q∧(κ (br q A C)).sat Φ:=fun hh=>by rw [hκ] at hh; exact hh.elim
    cases v with
    | bool q=>exact ⟨q,Ds g1,by cases q <;> exact hh⟩
    | oth o=>cases o with
     | bl =>
      have g1:=g1
      simp only [AD] at g1
      obtain ⟨q,hq⟩:=g1
      have hh:(κ (.both A C)).sat Φ:=hh
      rw [hb] at hh
      exact ⟨q,hq,by cases q; exact hh.2; exact hh.1⟩
     | _=>exact no hh
    | _=>exact no hh
   cases hex':(AH P N x).ends with
   | true =>
    rw [hex'] at hx hok hre
    have hok:(EU sm (AH P N x) (fun _=>true) dom&&EU sm (AH P N y) rOk dom)=true:=hok
    rw [Bool.and_eq_true] at hok
    obtain ⟨q,hq,hx⟩:=key _ _ id (fun _=>rfl) (fun _ _=>rfl) hx
    refine wp_cond hq ?_
    cases q with
    | true=>exact ihx r0 _ dom env t t' h n Φ hok.1 ri hx φ a w hT g Q hex fun he=>by rw [hex'] at he; cases he
    | false=>exact ihy rest rOk dom env t t' h n Φ hok.2 ri hx φ a w hT g Q hex fun he=>hre (by rw [he]; rfl)
   | false =>
    rw [hex'] at hx hok hre
    have hre:=hre rfl
    cases hey:(AH P N y).ends with
    | true =>
     rw [hey] at hx hok
     have hok:(EU sm (AH P N x) rOk dom&&EU sm (AH P N y) (fun _=>true) dom)=true:=hok
     rw [Bool.and_eq_true] at hok
     obtain ⟨q,hq,hx⟩:=key _ _ id (fun _=>rfl) (fun _ _=>rfl) hx
     refine wp_cond hq ?_
     cases q with
     | true=>exact ihx rest rOk dom env t t' h n Φ hok.1 ri hx φ a w hT g Q hex fun _=>hre
     | false=>exact ihy r0 _ dom env t t' h n Φ hok.2 ri hx φ a w hT g Q hex fun he=>by rw [hey] at he; cases he
    | false =>
     rw [hey] at hx hok
     have hok:(EU sm (AH P N x) (fun _=>true) dom&&(EU sm (AH P N y) (fun _=>true) dom&&rOk []))=true:=hok
     rw [Bool.and_eq_true,Bool.and_eq_true] at hok
     obtain ⟨q,hq,hx⟩:=key _ _ (fun r=>AQ r fun t h n=>rest [] t h n) (fun _=>rfl) (fun _ _=>rfl) hx
     refine wp_cond hq ?_
     have fin:∀ (Z:Code),Sv P ρ B N sm Z t h n (PS (fun t h n=>rest [] t h n) Φ)->Z.wp P Q a w:=fun Z HZ=>by
      refine HZ φ a w hT g Q fun e0 t0 h0 n0 hj φ' a' w' tf f1 g1 T1 hk=>?_
      cases e0 with
      | nrm=>exact hre [] [] tf t0 h0 n0 hok.2.2 (RI.start ri.inj hk) hj φ' a' w' f1 g1 T1
      | exit id=>exact hex _ _ _ _ hj (fun h=>by cases h) φ' a' w' tf f1 g1 T1 hk
      | ret=>exact hex _ _ _ _ hj (fun h=>by cases h) φ' a' w' tf f1 g1 T1 hk
     cases q with
     | true=>exact fin x (ihx.join hok.1 ri (DO hx))
     | false=>exact fin y (ihy.join hok.2.1 ri (DO hx))
  ·exact hx.elim
 | block id b ih =>
  intro rest rOk dom env t t' h n Φ hok ri hx φ a w hT g Q hex hre
  have hok:(EU sm (AH P N b) (fun _=>true) dom&&rOk [])=true:=hok
  rw [Bool.and_eq_true] at hok
  have hx:(Ad id (Gy sm cf2 (AH P N b) r0 env t' h n) (fun t h n=>rest [] t h n)).sat Φ:=hx
  have hre:=hre rfl
  refine wp_block (ih.join hok.1 ri (FG hx) φ a w hT g _ fun e0 t0 h0 n0 hx φ' a' w' tf f1 g1 T1 hk=>?_)
  cases e0 with
  | nrm=>exact hre [] [] tf t0 h0 n0 hok.2 (RI.start ri.inj hk) hx φ' a' w' f1 g1 T1
  | exit j =>
   show (if j=id then Q .normal a' w' else Q (.exit j) a' w')
   rcases hx with ⟨hj,hx⟩ | ⟨hj,hx⟩
   ·rw [if_pos hj]; exact hre [] [] tf t0 h0 n0 hok.2 (RI.start ri.inj hk) hx φ' a' w' f1 g1 T1
   ·rw [if_neg hj]; exact hex _ _ _ _ hx (fun h=>by cases h) φ' a' w' tf f1 g1 T1 hk
  | ret=>exact hex _ _ _ _ hx (fun h=>by cases h) φ' a' w' tf f1 g1 T1 hk
 | loop b ih =>
  intro rest rOk dom env t t' h n Φ hok ri hx φ a w hT g Q hex hre
  have hok:EU sm (AH P N b) (fun _=>true) []=true:=hok
  have hx:(En (fun t h n=>Gy sm cf2 (AH P N b) r0 [] t h n) 1000000000 t' h n).sat Φ:=hx
  refine wp_loop_rounds 1000000000 ?_
  have key:∀ (k:Nat) (t:Regs) (t':S) (h:Heap) (n:K4),(∀ p s,BF p sm=some s->S.get s t'=Bc p t)->(En (fun t h n=>Gy sm cf2 (AH P N b) r0 [] t h n) k t' h n).sat Φ->∀ φ a w,TR ρ N φ t a->Gam ρ B h n φ w →
    (∀ e t1 h1 n1,Φ (.ok e t1 h1 n1)->e ≠ .nrm->∀ φ' a' w' tf,Fr h h1 φ φ' n n1 w w'->Gam ρ B h1 n1 φ' w'->TR ρ N φ' tf a'->(∀ p s,BF p sm=some s->S.get s t1=Bc p tf)->Q (Iq e) a' w')->Code.rounds P b Q k a w:=by
   intro k
   induction k with
   | zero=>intro t t' h n _ hx; exact hx.elim
   | succ k ihk =>
    intro t t' h n hk0 hx φ a w hT g hQ
    refine ih.join hok (RI.start ri.inj hk0) (U7 hx) φ a w hT g _ fun e0 t0 h0 n0 hx φ' a' w' tf f1 g1 T1 hk=>?_
    cases e0 with
    | nrm=>exact ihk tf t0 h0 n0 hk hx φ' a' w' T1 g1 fun e t1 h1 n1 hΦ hne φ2 a2 w2 tf2 f2 g2 T2 hk2=>hQ e t1 h1 n1 hΦ hne φ2 a2 w2 tf2 (Fr.trans f1 f2) g2 T2 hk2
    | exit id=>exact hQ _ _ _ _ hx (fun h=>by cases h) φ' a' w' tf f1 g1 T1 hk
    | ret=>exact hQ _ _ _ _ hx (fun h=>by cases h) φ' a' w' tf f1 g1 T1 hk
  exact key _ t t' h n ri.keep hx φ a w hT g hex
 | rangeFunc _ _ _ _=>intro rest rOk dom env t t' h n Φ hok ri hx; exact hx.elim
 | scope _=>intro rest rOk dom env t t' h n Φ hok ri hx; exact hx.elim
 | goto _=>intro rest rOk dom env t t' h n Φ hok ri hx; exact hx.elim
 | refuse _=>intro rest rOk dom env t t' h n Φ hok ri hx; exact hx.elim
end
end Go.Ev

namespace Go.Ev
set_option linter.unusedVariables false
def VM (v:V):List K4->List K4 :=
 @V.rec (fun _=>List K4->List K4) (fun _=>List K4->List K4)
  (fun _ _ a=>a) (fun _ a=>a) (fun p _ a=>p::a) (fun p _ _ _ _ _ a=>p::a) (fun _ _ a=>a) (fun _ ih a=>ih a) (fun _ a=>a) (fun p a=>p::a) (fun _ _ ih a=>ih a) (fun _ ih a=>ih a) (fun _ a=>a)
  (fun a=>a) (fun _ _ ihx ihl a=>ihx (ihl a)) v
def Sl (l:List V) (a:List K4):List K4:=@List.rec V (fun _=>List K4) a (fun v _ ih=>VM v ih) l
def Ab5 (es:List (V×V)) (a:List K4):List K4:=@List.rec (V×V) (fun _=>List K4) a (fun e _ ih=>@Prod.rec V V (fun _=>List K4) (fun x y=>VM x (VM y ih)) e) es
def RN (o:Ob) (a:List K4):List K4 :=
 @Ob.rec (fun _=>List K4) (fun cs _ _=>@Cs.rec (fun _=>List K4) (fun xs=>Sl xs a) (fun _ _=>a) cs) (fun es _ _=>Ab5 es a) (fun _ _ _ _=>a) a (fun _ _=>a) o
def Gc (o:Ob):Bool:=@Ob.rec (fun _=>Bool) (fun _ sup _=>@Bool.rec (fun _=>Bool) true false sup) (fun _ _ _=>true) (fun _ _ _ _=>false) false (fun _ _=>false) o
def Nc (o:Ob):Ob:=@Ob.rec (fun _=>Ob) (fun cs sup _=>.c cs sup none) (fun es bs c=>.m es bs c) (fun p s l c=>.it p s l c) .it0 (fun f b=>.lp f b) o
theorem GM (o:Ob):BK (Nc o)=none:=by cases o <;> rfl
theorem Q8 {ρ:Env} {φ:AY} {w:World} {o:Ob} {b s tot:Nat} (h:F4 ρ φ w o b s tot):F4 ρ φ w (Nc o) b s tot:=by cases o <;> exact h
def Dp (h:Heap) (k:Nat):List K4->Heap->List K4->(Heap->List K4->R)->R :=
 @Nat.rec (fun _=>List K4->Heap->List K4->(Heap->List K4->R)->R) (fun _ hs acc κ=>κ hs acc)
  (fun _ ih todo hs acc κ=>@List.rec K4 (fun _=>R) (κ hs acc) (fun p todo _=>Bp p hs fun o=>@Option.rec Ob (fun _=>R)
   (Bp p h fun o=>@Option.rec Ob (fun _=>R) (ih todo hs acc κ) (fun ob=>br (Gc ob) (BA p hs (some (Nc ob)) fun hs=>ih (RN ob todo) hs (p::acc) κ) (ih todo hs acc κ)) o)
   (fun _=>ih todo hs acc κ) o) todo) k
def MQ (p n:K4):Bool:=Nat.ble (Nat.succ p.toN) n.toN
def EL (n:K4) (v:V):Bool :=
 @V.rec (fun _=>Bool) (fun _=>Bool)
  (fun _ _=>true) (fun _=>true) (fun p _=>MQ p n) (fun p _ _ _ _ _=>MQ p n) (fun _ _=>true) (fun _ ih=>ih) (fun _=>true) (fun p=>MQ p n) (fun _ _ ih=>ih) (fun _ ih=>ih) (fun o=>@Ot.rec (fun _=>Bool) true (fun _=>true) (fun p=>MQ p n) false (fun _ _ _=>true) (fun _ _=>true) true (fun _ _=>true) (fun _ _ _ _=>true) (fun _ _ _ _=>true) (fun _ _ _=>true) (fun _ _=>true) o)
  true (fun _ _ ihx ihl=>br ihx ihl false) v
def KB (n:K4) (l:List V):Bool:=EL n (.tup l)
def Kj (p:Option K4) (κ:R):R:=@Option.rec K4 (fun _=>R) κ (B4 "") p
def OP (n:K4) (a b:Cs) (κ:R):R :=
 @Cs.rec (fun _=>R) (fun xs=>@Cs.rec (fun _=>R) (fun ys=>br (KB n xs) (Az (.tup xs) (.tup ys) κ) (.fail "")) (AR "") b)
  (fun m c=>@Cs.rec (fun _=>R) (B4 "") (fun m' c'=>br (Nat.beq m m') (br (Nat.beq c c') κ (.fail "")) (.fail "")) b) a
def K9 (n:K4) (a:List (V×V)):List (V×V)->R->R :=
 @List.rec (V×V) (fun _=>List (V×V)->R->R) (fun b κ=>@List.rec (V×V) (fun _=>R) κ (BU "") b)
  (fun e _ ih b κ=>@List.rec (V×V) (fun _=>R) (.fail "") (fun e' b _=>@Prod.rec V V (fun _=>R) (fun x y=>@Prod.rec V V (fun _=>R) (fun x' y'=>br (EL n x) (br (EL n y) (Az x x' (Az y y' (ih b κ))) (.fail "")) (.fail "")) e') e) b) a
def JQ (a:List Nat):List Nat->R->R :=
 @List.rec Nat (fun _=>List Nat->R->R) (fun b κ=>@List.rec Nat (fun _=>R) κ (BU "") b)
  (fun x _ ih b κ=>@List.rec Nat (fun _=>R) (.fail "") (fun y b _=>br (Nat.beq x y) (ih b κ) (.fail "")) b) a
def PU (n:K4) (a b:Ob) (κ:R):R :=
 @Ob.rec (fun _=>R) (fun cs sup prev=>br sup (.fail "") (Kj prev (@Ob.rec (fun _=>R) (fun cs' sup' prev'=>br sup' (.fail "") (Kj prev' (OP n cs cs' κ))) (BU "") (Fb "") (.fail "") (AR "") b)))
  (fun es bs c=>@Ob.rec (fun _=>R) (BU "") (fun es' bs' c'=>br (Nat.beq c c') (JQ bs bs' (K9 n es es' κ)) (.fail "")) (Fb "") (.fail "") (AR "") b) (Fb "") (.fail "") (AR "") a
def G5 (n:K4) (a b:C3) (κ:R):R :=
 @Option.rec Ob (fun _=>R) (@Option.rec Ob (fun _=>R) κ (B4 "") b) (fun x=>@Option.rec Ob (fun _=>R) (.fail "") (fun y=>PU n x y κ) b) a
def FP (n:K4) (h1 h':Heap) (acc:List K4) (κ:R):R :=
 @List.rec K4 (fun _=>R) κ (fun p _ ih=>Bp p h1 fun a=>Bp p h' fun b=>G5 n a b ih) acc
def XB (n:K4) (p:Option K4):Option K4:=@Option.rec K4 (fun _=>Option K4) none (fun q=>@Bool.rec (fun _=>Option K4) none (some q) (MQ q n)) p
def Iv (n:K4) (o:C3):C3:=@Option.rec Ob (fun _=>C3) none (fun o=>some (@Ob.rec (fun _=>Ob) (fun cs sup prev=>.c cs sup (XB n prev)) (fun es bs c=>.m es bs c) (fun p s l c=>.it p s l c) .it0 (fun f b=>.lp f b) o)) o
def I8 (n:K4) (v1:V) (h1:Heap) (v':V) (h':Heap) (κ:R):R :=
 br (EL n v1) (Az v1 v' κ) (CO v1 (.fail "") fun p off len cap ex esz=>CO v' (.fail "") fun p' off' len' cap' ex' esz' =>
  br (MQ p n) (.fail "") (br (MQ p' n) (.fail "") (Az (.sl p off len cap ex esz) (.sl p off' len' cap' ex' esz') (Bp p h1 fun a=>Bp p' h' fun b=>G5 n (Iv n a) (Iv n b) κ))))
def Pv (r:R):(V->Heap->R)->R :=
 @R.rec (fun _=>(V->Heap->R)->R) (fF5 "") (fun v h _ κ=>κ v h) (fun w _=>.fail w) (fun _ _ iha _ κ=>iha κ) r
def TS (a b:K4) (κ:K4->R):R:=br (Nat.ble a.toN b.toN) (κ b) (κ a)
def S5 (n:K4) (v1:V) (h1:Heap) (acc:List K4) (r:R):K4->(K4->R)->R :=
 @R.rec (fun _=>K4->(K4->R)->R) (Dm "") (fun v h m mx κ=>I8 n v1 h1 v h (FP n h1 h acc (TS m mx κ))) (fun w _ _=>.fail w) (fun _ _ iha ihb mx κ=>iha mx fun mx=>ihb mx κ) r
def Qm (o:Ob) (h:Heap) (κ:Heap->R):R:=@Ob.rec (fun _=>R) (fun _ _ prev=>@Option.rec K4 (fun _=>R) (κ h) (fun q=>BA q h none κ) prev) (fun _ _ _=>κ h) (fun _ _ _ _=>κ h) (κ h) (fun _ _=>κ h) o
def Nq (h h1:Heap) (acc:List K4):(Heap->R)->R :=
 @List.rec K4 (fun _=>(Heap->R)->R) (fun κ=>κ h)
  (fun p _ ih κ=>ih fun hf=>Bp p h fun o=>@Option.rec Ob (fun _=>R) (.fail "") (fun o=>Qm o hf fun hf=>Bp p h1 fun o1=>BA p hf o1 κ) o) acc
def Vw (n:K4) (v1:V) (h1 hf:Heap) (m:K4):R :=
 br (EL n v1) (.rv v1 hf m) (CO v1 (.fail "") fun p off len cap ex esz=>Bp p h1 fun o=>@Option.rec Ob (fun _=>R) (.fail "") (fun ob=>BA m hf (some ob) fun hf=>m.nx fun m'=>.rv (.sl m off len cap ex esz) hf m') (Iv n o))
def Vp (n:K4) (h:Heap) (acc:List K4) (r:R):R :=
 Pv r fun v1 h1=>S5 n v1 h1 acc r n fun m=>Nq h h1 acc fun hf=>Vw n v1 h1 hf m
def XP (k:Nat) (run:Heap->R) (args:List V) (h:Heap) (n:K4):R :=
 Dp h k (Sl args []) AL [] fun hs acc=>Vp n h acc (run hs)
section
variable {P:Program} {ρ:Env} {B:Nat}
structure Sub (h hs:Heap) (acc:List K4):Prop where
 sub:∀ p o,AG p hs=some o->∃ o0,AG p h=some o0∧o=Nc o0∧Gc o0=true∧p∈acc
 has:∀ p,p∈acc->∃ o,AG p hs=some o
theorem Sub.mem {h hs:Heap} {acc:List K4} (s:Sub h hs acc) {p:K4} {o:Ob} (hp:AG p hs=some o):p∈acc:=by
 obtain ⟨_,_,_,_,m⟩:=s.sub p o hp; exact m
theorem Sub.in_h {h hs:Heap} {acc:List K4} (s:Sub h hs acc) {p:K4} {o:Ob} (hp:AG p hs=some o):∃ o0,AG p h=some o0:=by
 obtain ⟨o0,e,_⟩:=s.sub p o hp; exact ⟨o0,e⟩
theorem Em {h:Heap}:∀ (k:Nat) {todo:List K4} {hs:Heap} {acc:List K4} {κ:Heap->List K4->R},Sub h hs acc->∃ hs' acc',Sub h hs' acc'∧Dp h k todo hs acc κ=κ hs' acc'
 | 0,todo,hs,acc,κ,s=>⟨hs,acc,s,rfl⟩
 | k+1,[],hs,acc,κ,s=>⟨hs,acc,s,rfl⟩
 | k+1,p::todo,hs,acc,κ,s=>by
  have e:Dp h (k+1) (p::todo) hs acc κ=Bp p hs fun o=>@Option.rec Ob (fun _=>R)
   (Bp p h fun o=>@Option.rec Ob (fun _=>R) (Dp h k todo hs acc κ) (fun ob=>br (Gc ob) (BA p hs (some (Nc ob)) fun hs=>Dp h k (RN ob todo) hs (p::acc) κ) (Dp h k todo hs acc κ)) o)
   (fun _=>Dp h k todo hs acc κ) o:=rfl
  rw [e,Bz]
  cases h1:AG p hs with
  | some o=>exact Em k s
  | none =>
   show ∃ hs' acc',Sub h hs' acc'∧(Bp p h fun o=>@Option.rec Ob (fun _=>R) (Dp h k todo hs acc κ) (fun ob=>br (Gc ob) (BA p hs (some (Nc ob)) fun hs=>Dp h k (RN ob todo) hs (p::acc) κ) (Dp h k todo hs acc κ)) o)=κ hs' acc'
   rw [Bz]
   cases h2:AG p h with
   | none=>exact Em k s
   | some ob =>
    show ∃ hs' acc',Sub h hs' acc'∧br (Gc ob) (BA p hs (some (Nc ob)) fun hs=>Dp h k (RN ob todo) hs (p::acc) κ) (Dp h k todo hs acc κ)=κ hs' acc'
    cases h3:Gc ob with
    | false=>exact Em k s
    | true =>
     show ∃ hs' acc',Sub h hs' acc'∧(BA p hs (some (Nc ob)) fun hs=>Dp h k (RN ob todo) hs (p::acc) κ)=κ hs' acc'
     rw [BJ,Bx]
     refine Em k ⟨fun q o hq=>?_,fun q hq=>?_⟩
     ·rcases Bu hq with ⟨rfl,e⟩ | ⟨hne,hq⟩
      ·cases e; exact ⟨ob,h2,rfl,h3,List.mem_cons_self ..⟩
      ·obtain ⟨o0,a,e,b,c⟩:=s.sub q o hq; exact ⟨o0,a,e,b,List.mem_cons_of_mem _ c⟩
     ·by_cases e:p=q
      ·subst e; exact ⟨Nc ob,AA _ _ _⟩
      ·rw [An _ _ e]
       rcases List.mem_cons.1 hq with e' | hq
       ·exact absurd e'.symm e
       ·exact s.has q hq
theorem Sub.nil {h:Heap}:Sub h AL []:=⟨fun p o hp=>(by rw [Co] at hp; cases hp),fun p hp=>(by simp at hp)⟩
theorem FL {p n:K4}:MQ p n=true ↔ p.toN<n.toN:=by unfold MQ; rw [Am]; omega
mutual
theorem El {n:K4} {φ1 φ2:AY} (hφ:∀ p x,p.toN<n.toN->φ1 p=some x->φ2 p=some x):∀ {v:V} {x:Value},EL n v=true->AD ρ φ1 v x->AD ρ φ2 v x
 | .int _ _,_,_,r=>by simpa only [AD] using r
 | .bool _,_,_,r=>by simpa only [AD] using r
 | .ptr p _,_,ho,r=>by
  have ho:MQ p n=true:=ho
  simp only [AD] at r ⊢
  obtain ⟨b,s,tot,hp,e⟩:=r
  exact ⟨b,s,tot,hφ _ _ (FL.1 ho) hp,e⟩
 | .sl p _ _ _ _ _,_,ho,r=>by
  have ho:MQ p n=true:=ho
  simp only [AD] at r ⊢
  obtain ⟨b,s,tot,o,c,hp,e⟩:=r
  exact ⟨b,s,tot,o,c,hφ _ _ (FL.1 ho) hp,e⟩
 | .str _ _,_,_,r=>by simpa only [AD] using r
 | .agg l,_,ho,r=>by
  have ho:KB n l=true:=ho
  simp only [AD] at r ⊢
  obtain ⟨cs,e,hl,hh⟩:=r
  exact ⟨cs,e,Fz hφ ho hl,hh⟩
 | .nil _,_,_,r=>by simpa only [AD] using r
 | .map p,_,ho,r=>by
  have ho:MQ p n=true:=ho
  simp only [AD] at r ⊢
  obtain ⟨b,s,tot,hp,e⟩:=r
  exact ⟨b,s,tot,hφ _ _ (FL.1 ho) hp,e⟩
 | .fn _ l,_,ho,r=>by
  have ho:KB n l=true:=ho
  simp only [AD] at r ⊢
  obtain ⟨cs,e,hl⟩:=r
  exact ⟨cs,e,Fz hφ ho hl⟩
 | .tup l,_,ho,r=>by
  have ho:KB n l=true:=ho
  simp only [AD] at r ⊢
  obtain ⟨cs,e,hl⟩:=r
  exact ⟨cs,e,Fz hφ ho hl⟩
 | .oth o,_,ho,r=>by
  cases o with
  | yl p =>
   have ho:MQ p n=true:=ho
   simp only [AD] at r ⊢
   obtain ⟨b,s,tot,hp,e⟩:=r
   exact ⟨b,s,tot,hφ _ _ (FL.1 ho) hp,e⟩
  | _=>simp only [AD] at r ⊢ <;> exact r
theorem Fz {n:K4} {φ1 φ2:AY} (hφ:∀ p x,p.toN<n.toN->φ1 p=some x->φ2 p=some x):∀ {l:List V} {xs:List Value},KB n l=true->Bo ρ φ1 l xs->Bo ρ φ2 l xs
 | [],_,_,r=>by simpa only [Bo] using r
 | v::l,_,ho,r=>by
  have ho:br (EL n v) (KB n l) false=true:=ho
  simp only [Bo] at r ⊢
  obtain ⟨y,ys,e,hy,hys⟩:=r
  cases h1:EL n v with
  | false=>rw [h1] at ho; cases ho
  | true =>
   rw [h1] at ho
   exact ⟨y,ys,e,El hφ h1 hy,Fz hφ ho hys⟩
end
theorem Nt {n:K4}:∀ {l:List V},KB n l=true->∀ v∈l,EL n v=true
 | [],_,v,hv=>by simp at hv
 | x::l,ho,v,hv=>by
  have ho:br (EL n x) (KB n l) false=true:=ho
  cases h1:EL n x with
  | false=>rw [h1] at ho; cases ho
  | true =>
   rw [h1] at ho
   rcases List.mem_cons.1 hv with e | hv
   ·subst e; exact h1
   ·exact Nt (show KB n l=true from ho) v hv
def Jn (n:K4):Ob->Prop
 | .c (.l xs) sup prev=>KB n xs=true∧sup=false∧prev=none
 | .c (.b _ _) sup prev=>sup=false∧prev=none
 | .m es _ _=>∀ e∈es,EL n e.1=true∧EL n e.2=true
 | _=>False
theorem Jn.prev {n:K4} {o:Ob} (h:Jn n o):BK o=none:=by
 cases o with
 | c cs sup prev=>cases cs with
  | l xs=>exact h.2.2
  | b m c=>exact h.2
 | m es bs c=>rfl
 | it _ _ _ _=>exact h.elim
 | it0=>exact h.elim
 | lp _ _=>exact h.elim
theorem Jn.sup {n:K4} {o:Ob} (h:Jn n o):HU o=false:=by
 cases o with
 | c cs sup prev=>cases cs with
  | l xs=>exact h.2.1
  | b m c=>exact h.1
 | m es bs c=>rfl
 | it _ _ _ _=>exact h.elim
 | it0=>exact h.elim
 | lp _ _=>exact h.elim
theorem RG {n:K4} {o:C3} {ob:Ob} (h:Iv n o=some ob):∃ obr,o=some obr∧(BK ob=none->∀ q,BK obr=some q->n.toN≤q.toN) ∧ ∀ {φ:AY} {w:World} {b s tot:Nat},F4 ρ φ w obr b s tot->F4 ρ φ w ob b s tot:=by
 cases o with
 | none=>cases h
 | some obr =>
  refine ⟨obr,rfl,?_⟩
  cases obr with
  | c cs sup prev =>
   have h:some (Ob.c cs sup (XB n prev))=some ob:=h
   cases h
   refine ⟨fun hp q hq=>?_,fun k=>k⟩
   have hq:prev=some q:=hq
   subst hq
   have hp:@Bool.rec (fun _=>Option K4) none (some q) (MQ q n)=none:=hp
   cases hl:MQ q n with
   | true=>rw [hl] at hp; cases hp
   | false =>
    rcases Nat.lt_or_ge q.toN n.toN with h | h
    ·rw [FL.2 h] at hl; cases hl
    ·exact h
  | m _ _ _=>cases h; exact ⟨fun _ q hq=>(by cases hq),fun k=>k⟩
  | it _ _ _ _=>cases h; exact ⟨fun _ q hq=>(by cases hq),fun k=>k⟩
  | it0=>cases h; exact ⟨fun _ q hq=>(by cases hq),fun k=>k⟩
  | lp _ _=>cases h; exact ⟨fun _ q hq=>(by cases hq),fun k=>k⟩
theorem JY {n:K4} {φ1 φ2:AY} (hφ:∀ p x,p.toN<n.toN->φ1 p=some x->φ2 p=some x) {w:World} {o:Ob} {b s tot:Nat} (ho:Jn n o) (k:F4 ρ φ1 w o b s tot):F4 ρ φ2 w o b s tot:=by
 cases o with
 | c cs sup prev =>
  obtain ⟨c,e,fr,h1,h2,h3,h4,h5⟩:=k
  refine ⟨c,e,fr,h1,h2,h3,h4,fun i v hv=>?_⟩
  obtain ⟨x,k1,k2,k3⟩:=h5 i v hv
  refine ⟨x,k1,?_,k3⟩
  cases cs with
  | l xs=>exact El hφ (Nt ho.1 v (List.mem_of_getElem? hv)) k2
  | b m c =>
   by_cases hi:i<m
   ·rw [Cs.b_pos hi] at hv; cases hv; exact El hφ rfl k2
   ·rw [Cs.b_neg hi] at hv; cases hv
 | m es bs clk =>
  obtain ⟨ents,h1,h2,h3⟩:=k
  refine ⟨ents,h1,?_,h3⟩
  have ho':∀ e∈es,EL n e.1=true∧EL n e.2=true:=ho
  clear h1 h3 ho
  generalize ents.toList=l at h2
  induction es generalizing l with
  | nil=>exact h2
  | cons e es ih =>
   obtain ⟨y,ys,rfl,k1,k2,k3⟩:=h2
   obtain ⟨o1,o2⟩:=ho' e (List.mem_cons_self ..)
   exact ⟨y,ys,rfl,El hφ o1 k1,El hφ o2 k2,ih (fun e he=>ho' e (List.mem_cons_of_mem _ he)) _ k3⟩
 | it _ _ _ _=>exact ho.elim
 | it0=>exact ho.elim
 | lp _ _=>exact ho.elim
theorem JF {p:Option K4} {κ:R} (h:(Kj p κ).good):p=none∧Kj p κ=κ:=by
 cases p with
 | none=>exact ⟨rfl,rfl⟩
 | some q=>exact h.elim
theorem Je:∀ {a b:List Nat} {κ:R},(JQ a b κ).good->a=b∧JQ a b κ=κ
 | [],[],κ,_=>⟨rfl,rfl⟩
 | [],_::_,κ,h=>h.elim
 | _::_,[],κ,h=>h.elim
 | x::a,y::b,κ,h=>by
  have h:R.good (br (Nat.beq x y) (JQ a b κ) (.fail "")):=h
  obtain ⟨h1,e1⟩:=Ak h
  rw [e1] at h
  obtain ⟨h2,e2⟩:=Je h
  exact ⟨by rw [Nat.eq_of_beq_eq_true h1,h2],Eq.trans e1 e2⟩
theorem J8 {n:K4}:∀ {a b:List (V×V)} {κ:R},(K9 n a b κ).good->a=b∧(∀ e∈a,EL n e.1=true∧EL n e.2=true)∧K9 n a b κ=κ
 | [],[],κ,_=>⟨rfl,fun e he=>by simp at he,rfl⟩
 | [],_::_,κ,h=>h.elim
 | _::_,[],κ,h=>h.elim
 | (x,y)::a,(x',y')::b,κ,h=>by
  have h:R.good (br (EL n x) (br (EL n y) (Az x x' (Az y y' (K9 n a b κ))) (.fail "")) (.fail "")):=h
  obtain ⟨h1,e1⟩:=Ak h
  rw [e1] at h
  obtain ⟨h2,e2⟩:=Ak h
  rw [e2] at h
  obtain ⟨h3,e3⟩:=DE h
  rw [e3] at h
  obtain ⟨h4,e4⟩:=DE h
  rw [e4] at h
  obtain ⟨h5,h6,e5⟩:=J8 h
  refine ⟨by rw [h3,h4,h5],fun e he=>?_,Eq.trans e1 (e2.trans (e3.trans (e4.trans e5)))⟩
  rcases List.mem_cons.1 he with e' | he
  ·subst e'; exact ⟨h1,h2⟩
  ·exact h6 e he
theorem Pe {n:K4} {a b:Ob} {κ:R} (h:(PU n a b κ).good):a=b∧Jn n a∧PU n a b κ=κ:=by
 cases a with
 | c cs sup prev =>
  have h0:R.good (br sup (.fail "") (Kj prev (@Ob.rec (fun _=>R) (fun cs' sup' prev'=>br sup' (.fail "") (Kj prev' (OP n cs cs' κ))) (BU "") (Fb "") (.fail "") (AR "") b))):=h
  obtain ⟨h1,e1⟩:=Fl h0
  rw [e1] at h0
  obtain ⟨h2,e2⟩:=JF h0
  rw [e2] at h0
  cases b with
  | c cs' sup' prev' =>
   have h0:R.good (br sup' (.fail "") (Kj prev' (OP n cs cs' κ))):=h0
   obtain ⟨h3,e3⟩:=Fl h0
   rw [e3] at h0
   obtain ⟨h4,e4⟩:=JF h0
   rw [e4] at h0
   subst h1 h2 h3 h4
   cases cs with
   | l xs=>cases cs' with
    | l ys =>
     have h0:R.good (br (KB n xs) (Az (.tup xs) (.tup ys) κ) (.fail "")):=h0
     obtain ⟨h5,e5⟩:=Ak h0
     rw [e5] at h0
     obtain ⟨h6,e6⟩:=DE h0
     cases h6
     exact ⟨rfl,⟨h5,rfl,rfl⟩,Eq.trans e5 e6⟩
    | b m c=>exact h0.elim
   | b m c=>cases cs' with
    | l ys=>exact h0.elim
    | b m' c' =>
     have h0:R.good (br (Nat.beq m m') (br (Nat.beq c c') κ (.fail "")) (.fail "")):=h0
     obtain ⟨h5,e5⟩:=Ak h0
     rw [e5] at h0
     obtain ⟨h6,e6⟩:=Ak h0
     exact ⟨by rw [Nat.eq_of_beq_eq_true h5,Nat.eq_of_beq_eq_true h6],⟨rfl,rfl⟩,Eq.trans e5 e6⟩
  | m _ _ _=>exact h0.elim
  | it _ _ _ _=>exact h0.elim
  | it0=>exact h0.elim
  | lp _ _=>exact h0.elim
 | m es bs c=>cases b with
  | m es' bs' c' =>
   have h0:R.good (br (Nat.beq c c') (JQ bs bs' (K9 n es es' κ)) (.fail "")):=h
   obtain ⟨h1,e1⟩:=Ak h0
   rw [e1] at h0
   obtain ⟨h2,e2⟩:=Je h0
   rw [e2] at h0
   obtain ⟨h3,h4,e3⟩:=J8 h0
   refine ⟨by rw [Nat.eq_of_beq_eq_true h1,h2,h3],h4,Eq.trans e1 (e2.trans e3)⟩
  | c _ _ _=>exact h.elim
  | it _ _ _ _=>exact h.elim
  | it0=>exact h.elim
  | lp _ _=>exact h.elim
 | it _ _ _ _=>exact h.elim
 | it0=>exact h.elim
 | lp _ _=>exact h.elim
theorem Jg {n:K4} {a b:C3} {κ:R} (h:(G5 n a b κ).good):a=b∧(∀ o,a=some o->Jn n o)∧G5 n a b κ=κ:=by
 cases a with
 | none=>cases b with
  | none=>exact ⟨rfl,fun o h=>(by cases h),rfl⟩
  | some y=>exact h.elim
 | some x=>cases b with
  | none=>exact h.elim
  | some y =>
   obtain ⟨h1,h2,e⟩:=Pe (show R.good (PU n x y κ) from h)
   subst h1
   exact ⟨rfl,fun o h=>(by cases h; exact h2),e⟩
theorem HH {n:K4} {h1 h':Heap}:∀ {acc:List K4} {κ:R},(FP n h1 h' acc κ).good->(∀ p∈acc,AG p h1=AG p h' ∧ ∀ o,AG p h1=some o->Jn n o)∧FP n h1 h' acc κ=κ
 | [],κ,_=>⟨fun p hp=>by simp at hp,rfl⟩
 | q::acc,κ,h=>by
  have e0:FP n h1 h' (q::acc) κ=G5 n (AG q h1) (AG q h') (FP n h1 h' acc κ):=by
   show (Bp q h1 fun a=>Bp q h' fun b=>G5 n a b (FP n h1 h' acc κ))=_
   rw [Bz,Bz]
  rw [e0] at h
  obtain ⟨a1,a2,e1⟩:=Jg h
  rw [e1] at h
  obtain ⟨a3,e2⟩:=HH h
  refine ⟨fun p hp=>?_,e0.trans (e1.trans e2)⟩
  rcases List.mem_cons.1 hp with e | hp
  ·subst e; exact ⟨a1,a2⟩
  ·exact a3 p hp
def Td (n:K4) (v1:V) (h1:Heap) (v':V) (h':Heap):Prop :=
 (EL n v1=true∧v1=v')∨(EL n v1=false ∧ ∃ p p' off len cap ex esz,v1 = .sl p off len cap ex esz∧v' = .sl p' off len cap ex esz∧n.toN≤p.toN∧n.toN≤p'.toN∧Iv n (AG p h1)=Iv n (AG p' h') ∧ ∀ o,Iv n (AG p h1)=some o->Jn n o)
theorem MV {n:K4} {v1 v':V} {h1 h':Heap} {κ:R} (h:(I8 n v1 h1 v' h' κ).good):Td n v1 h1 v' h'∧I8 n v1 h1 v' h' κ=κ:=by
 unfold I8 at h ⊢
 cases ho:EL n v1 with
 | true =>
  rw [ho] at h
  obtain ⟨a,e⟩:=DE (show R.good (Az v1 v' κ) from h)
  exact ⟨.inl ⟨ho,a⟩,e⟩
 | false =>
  rw [ho] at h
  have h:R.good (CO v1 (.fail "") fun p off len cap ex esz=>CO v' (.fail "") fun p' off' len' cap' ex' esz'=>br (MQ p n) (.fail "") (br (MQ p' n) (.fail "") (Az (.sl p off len cap ex esz) (.sl p off' len' cap' ex' esz') (Bp p h1 fun a=>Bp p' h' fun b=>G5 n (Iv n a) (Iv n b) κ)))):=h
  show Td n v1 h1 v' h'∧(CO v1 (.fail "") fun p off len cap ex esz=>CO v' (.fail "") fun p' off' len' cap' ex' esz'=>br (MQ p n) (.fail "") (br (MQ p' n) (.fail "") (Az (.sl p off len cap ex esz) (.sl p off' len' cap' ex' esz') (Bp p h1 fun a=>Bp p' h' fun b=>G5 n (Iv n a) (Iv n b) κ))))=κ
  rcases Cy h with ⟨_,e1⟩ | ⟨p,off,len,cap,ex,esz,hv,e1⟩
  ·rw [e1] at h; exact h.elim
  rw [e1] at h ⊢
  rcases Cy h with ⟨_,e2⟩ | ⟨p',off',len',cap',ex',esz',hv',e2⟩
  ·rw [e2] at h; exact h.elim
  rw [e2] at h ⊢
  obtain ⟨a1,e3⟩:=Fl h
  rw [e3] at h ⊢
  obtain ⟨a2,e4⟩:=Fl h
  rw [e4] at h ⊢
  obtain ⟨a3,e5⟩:=DE h
  rw [e5] at h ⊢
  rw [Bz,Bz] at h ⊢
  obtain ⟨a4,a5,e6⟩:=Jg h
  rw [e6]
  cases a3
  have n1:n.toN≤p.toN:=by
   rcases Nat.lt_or_ge p.toN n.toN with h | h
   ·rw [FL.2 h] at a1; cases a1
   ·exact h
  have n2:n.toN≤p'.toN:=by
   rcases Nat.lt_or_ge p'.toN n.toN with h | h
   ·rw [FL.2 h] at a2; cases a2
   ·exact h
  exact ⟨.inr ⟨ho,p,p',off,len,cap,ex,esz,hv,hv',n1,n2,a4,a5⟩,rfl⟩
theorem Uh (a b:K4) (κ:K4->R):∃ m:K4,TS a b κ=κ m∧a.toN≤m.toN∧b.toN≤m.toN:=by
 unfold TS
 cases h:Nat.ble a.toN b.toN with
 | true=>exact ⟨b,rfl,Am.1 h,Nat.le_refl _⟩
 | false =>
  have:¬ a.toN≤b.toN:=fun h'=>by rw [Am.2 h'] at h; cases h
  exact ⟨a,rfl,Nat.le_refl _,by omega⟩
def UH (n:K4) (v1:V) (h1:Heap) (acc:List K4) (m:K4):R->Prop
 | .rv v h n'=>Td n v1 h1 v h∧(∀ p∈acc,AG p h1=AG p h ∧ ∀ o,AG p h1=some o->Jn n o)∧n'.toN≤m.toN
 | _=>False
theorem Iz {n:K4} {v1:V} {h1:Heap} {acc:List K4}:∀ {r:R} {mx:K4} {κ:K4->R},(S5 n v1 h1 acc r mx κ).good->∃ m:K4,mx.toN≤m.toN∧r.sat (UH n v1 h1 acc m)∧S5 n v1 h1 acc r mx κ=κ m
 | .ok _ _ _ _,mx,κ,h=>h.elim
 | .fail _,mx,κ,h=>h.elim
 | .rv v h0 n',mx,κ,h=>by
  have h:R.good (I8 n v1 h1 v h0 (FP n h1 h0 acc (TS n' mx κ))):=h
  obtain ⟨a1,e1⟩:=MV h
  rw [e1] at h
  obtain ⟨a2,e2⟩:=HH h
  rw [e2] at h
  obtain ⟨m,e3,l1,l2⟩:=Uh n' mx κ
  exact ⟨m,l2,⟨a1,a2,l1⟩,Eq.trans e1 (e2.trans e3)⟩
 | .both a b,mx,κ,h=>by
  have h:R.good (S5 n v1 h1 acc a mx fun mx=>S5 n v1 h1 acc b mx κ):=h
  obtain ⟨m1,l1,s1,e1⟩:=Iz h
  rw [e1] at h
  obtain ⟨m2,l2,s2,e2⟩:=Iz h
  refine ⟨m2,Nat.le_trans l1 l2,⟨R.sat_mono (fun r hr=>?_) s1,s2⟩,Eq.trans e1 e2⟩
  cases r with
  | rv v h0 n'=>exact ⟨hr.1,hr.2.1,Nat.le_trans hr.2.2 l2⟩
  | ok _ _ _ _=>exact hr
  | fail _=>exact hr
  | both _ _=>exact hr
theorem IV:∀ {r:R} {κ:V->Heap->R},(Pv r κ).good->∃ v h,Pv r κ=κ v h
 | .ok _ _ _ _,κ,h=>h.elim
 | .fail _,κ,h=>h.elim
 | .rv v h0 n',κ,h=>⟨v,h0,rfl⟩
 | .both a b,κ,h=>IV (r:=a) h
theorem S2 (o:Ob) (h:Heap) (κ:Heap->R):Qm o h κ=κ (FY (BK o) h):=by
 cases o with
 | c cs sup prev =>
  cases prev with
  | none=>rfl
  | some q=>show BA q h none κ=_; rw [BJ,Bx]; rfl
 | m _ _ _=>rfl
 | it _ _ _ _=>rfl
 | it0=>rfl
 | lp _ _=>rfl
structure PutOK (h h1:Heap) (acc:List K4) (hf:Heap):Prop where
 put:∀ q o,AG q hf=some o->(q∈acc∧AG q h1=some o)∨(q ∉ acc∧AG q h=some o ∧ ∀ p∈acc,∀ op,AG p h=some op->BK op≠some q)
theorem JS {h h1:Heap}:∀ {acc:List K4} {κ:Heap->R},(Nq h h1 acc κ).good->∃ hf,PutOK h h1 acc hf∧Nq h h1 acc κ=κ hf
 | [],κ,_=>⟨h,⟨fun q o hq=>.inr ⟨by simp,hq,fun p hp=>by simp at hp⟩⟩,rfl⟩
 | p::acc,κ,hg=>by
  have hg:R.good (Nq h h1 acc fun hf=>Bp p h fun o=>@Option.rec Ob (fun _=>R) (.fail "") (fun o=>Qm o hf fun hf=>Bp p h1 fun o1=>BA p hf o1 κ) o):=hg
  obtain ⟨hf,ok,e1⟩:=JS hg
  rw [e1] at hg
  have e0:Nq h h1 (p::acc) κ=_:=e1
  rw [e0]
  rw [Bz] at hg ⊢
  cases hp:AG p h with
  | none=>rw [hp] at hg; exact hg.elim
  | some op =>
   show ∃ hf',PutOK h h1 (p::acc) hf'∧(Qm op hf fun hf=>Bp p h1 fun o1=>BA p hf o1 κ)=κ hf'
   rw [S2,Bz,BJ,Bx]
   refine ⟨_,⟨fun q o hq=>?_⟩,rfl⟩
   rcases Bu hq with ⟨rfl,e⟩ | ⟨hne,hq⟩
   ·exact .inl ⟨List.mem_cons_self ..,e⟩
   ·obtain ⟨k1,hq⟩:=CX hq
    rcases ok.put q o hq with ⟨a,b⟩ | ⟨a,b,c⟩
    ·exact .inl ⟨List.mem_cons_of_mem _ a,b⟩
    ·refine .inr ⟨fun hm=>?_,b,fun p' hp' op' hop'=>?_⟩
     ·rcases List.mem_cons.1 hm with e | hm
      ·exact hne e.symm
      ·exact a hm
     ·rcases List.mem_cons.1 hp' with e | hp'
      ·subst e; rw [hp] at hop'; cases hop'; exact k1
      ·exact c p' hp' op' hop'
section
variable {h hs h1 h' hf:Heap} {acc:List K4} {n n' m:K4} {v1 v:V} {φ φ':AY} {w w':World}
theorem Fu (sub:Sub h hs acc) (put:PutOK h h1 acc hf) (g:Gam ρ B h n φ w) {q:K4} {o:Ob} (hq:q ∉ acc) (ho:AG q hf=some o) {b s tot:Nat} (hφ:φ q=some (b,s,tot)) {p:K4} (hp:p∈acc) {s' tot':Nat} (hφp:φ p=some (b,s',tot')):False:=by
 obtain ⟨op',hop⟩:=sub.has p hp
 obtain ⟨op,k1,_,k2,_⟩:=sub.sub p op' hop
 rcases put.put q o ho with ⟨a,_⟩ | ⟨_,a,c⟩
 ·exact hq a
 ·have hne:p≠q:=fun e=>hq (e ▸ hp)
  rcases g.sep p q op o b s' tot' s tot hne k1 a hφp hφ with e | e
  ·exact c p hp op k1 e
  ·have:=g.sup q p o op b s tot s' tot' a e k1 hφ hφp
   cases op with
   | c cs sup prev =>
    have this:sup=true:=this
    subst this
    cases k2
   | m _ _ _=>cases this
   | it _ _ _ _=>cases this
   | it0=>cases this
   | lp _ _=>cases this
theorem Se (sub:Sub h hs acc) (put:PutOK h h1 acc hf) (g:Gam ρ B h n φ w) (f1:Fr hs h' φ φ' n n' w w') {q:K4} {o:Ob} (hq:q ∉ acc) (ho:AG q hf=some o) {b s tot:Nat} (hφ:φ q=some (b,s,tot)):w'.heap[b]? = w.heap[b]?:=by
 refine f1.old b (g.blk q b s tot hφ).2 fun p s' tot' hp=>?_
 cases hx:AG p hs with
 | none=>rfl
 | some o'=>exact (Fu sub put g hq ho hφ (sub.mem hx) hp).elim
theorem Ts (sub:Sub h hs acc) (put:PutOK h h1 acc hf) (g:Gam ρ B h n φ w) (f1:Fr hs h' φ φ' n n' w w') (g1:Gam ρ B h' n' φ' w')
  (hacc:∀ p∈acc,AG p h1=AG p h' ∧ ∀ o,AG p h1=some o->Jn n o) (hm:n.toN≤m.toN):Gam ρ B hf m φ w'∧Fr h hf φ φ n m w w':=by
 have back:∀ p x,p.toN<n.toN->φ' p=some x->φ p=some x:=fun p x hp hx=>by
  rcases f1.new p x hx with h | ⟨h,_⟩
  ·exact h
  ·omega
 have inacc:∀ q o,q∈acc->AG q hf=some o->AG q h'=some o∧Jn n o:=fun q o hq ho=>by
  rcases put.put q o ho with ⟨_,a⟩ | ⟨a,_⟩
  ·exact ⟨(hacc q hq).1 ▸ a,(hacc q hq).2 o a⟩
  ·exact absurd hq a
 have outacc:∀ q o,q ∉ acc->AG q hf=some o->AG q h=some o:=fun q o hq ho=>by
  rcases put.put q o ho with ⟨a,_⟩ | ⟨_,a,_⟩
  ·exact absurd a hq
  ·exact a
 refine ⟨⟨Nat.le_trans g.base f1.size,fun p x hx=>Nat.lt_of_lt_of_le (g.dom p x hx) hm,fun p b s tot hx=>⟨(g.blk p b s tot hx).1,Nat.lt_of_lt_of_le (g.blk p b s tot hx).2 f1.size⟩,fun q o b s tot ho hx=>?_,fun p q o o' b s tot s' tot' hne ho ho' hx hy=>?_,fun p q o o' b s tot s' tot' ho hpr ho' hx hy=>?_,g1.glob⟩,
  ⟨AY.le_refl φ,fun _ _ h=>.inl h,hm,f1.os,f1.tape,f1.out,f1.size,fun b hb hn=>f1.old b hb fun p s tot hp=>?_,fun _ _ _ _ h=>.inl h,fun p hp hn=>?_⟩⟩
 ·by_cases hq:q∈acc
  ·obtain ⟨a,c⟩:=inacc q o hq ho
   exact JY back c (g1.obj q o b s tot a (f1.ext _ _ hx))
  ·exact C5 (Se sub put g f1 hq ho hx) (g.obj q o b s tot (outacc q o hq ho) hx)
 ·by_cases hp:p∈acc
  ·by_cases hq:q∈acc
   ·exact g1.sep p q o o' b s tot s' tot' hne (inacc p o hp ho).1 (inacc q o' hq ho').1 (f1.ext _ _ hx) (f1.ext _ _ hy)
   ·exact (Fu sub put g hq ho' hy hp hx).elim
  ·by_cases hq:q∈acc
   ·exact (Fu sub put g hp ho hx hq hy).elim
   ·exact g.sep p q o o' b s tot s' tot' hne (outacc p o hp ho) (outacc q o' hq ho') hx hy
 ·by_cases hp:p∈acc
  ·rw [(inacc p o hp ho).2.prev] at hpr; cases hpr
  ·by_cases hq:q∈acc
   ·exact (Fu sub put g hp ho hx hq hy).elim
   ·exact g.sup p q o o' b s tot s' tot' (outacc p o hp ho) hpr (outacc q o' hq ho') hx hy
 ·cases hx:AG p hs with
  | none=>rfl
  | some o'=>have:=hn p s tot hp; obtain ⟨o0,e0⟩:=sub.in_h hx; rw [e0] at this; cases this
 ·cases hx:AG p hf with
  | none=>rfl
  | some o =>
   exfalso
   by_cases hq:p∈acc
   ·obtain ⟨o',ho'⟩:=sub.has p hq
    obtain ⟨o0,e0⟩:=sub.in_h ho'
    rw [e0] at hn; cases hn
   ·rw [outacc p o hq hx] at hn; cases hn
theorem V0 (sub:Sub h hs acc) (put:PutOK h h1 acc hf) (g:Gam ρ B h n φ w) (f1:Fr hs h' φ φ' n n' w w') (g1:Gam ρ B h' n' φ' w') {x:Value} (r1:AD ρ φ' v x)
  (way:UH n v1 h1 acc m (.rv v h' n')) (hm:n.toN≤m.toN) {vf:V} {hff:Heap} {nf:K4} (hres:Vw n v1 h1 hf m = .rv vf hff nf) :
  ∃ φ'',Fr h hff φ φ'' n nf w w'∧Gam ρ B hff nf φ'' w'∧AD ρ φ'' vf x:=by
 obtain ⟨res,hacc,hn'⟩:=way
 obtain ⟨gb,fb⟩:=Ts sub put g f1 g1 hacc hm
 have back:∀ p x,p.toN<n.toN->φ' p=some x->φ p=some x:=fun p x hp hx=>by
  rcases f1.new p x hx with h | ⟨h,_⟩
  ·exact h
  ·omega
 unfold Vw at hres
 rcases res with ⟨ho,e⟩ | ⟨ho,p,p',off,len,cap,ex,esz,e1,e2,hp,hp',heq,hold⟩
 ·subst e
  rw [ho] at hres
  have hres:R.rv v1 hf m=R.rv vf hff nf:=hres
  cases hres
  exact ⟨φ,fb,gb,El back ho r1⟩
 ·rw [ho] at hres
  subst e1 e2
  have hres:(Bp p h1 fun o=>@Option.rec Ob (fun _=>R) (.fail "") (fun ob=>BA m hf (some ob) fun hf=>m.nx fun m'=>.rv (.sl m off len cap ex esz) hf m') (Iv n o)) = .rv vf hff nf:=hres
  rw [Bz] at hres
  cases hob:Iv n (AG p h1) with
  | none=>rw [hob] at hres; cases hres
  | some ob =>
   rw [hob] at hres
   have hres:(BA m hf (some ob) fun hf=>m.nx fun m'=>.rv (.sl m off len cap ex esz) hf m') = .rv vf hff nf:=hres
   rw [BJ,Bx] at hres
   rcases K4.nx_eq m (fun m'=>.rv (.sl m off len cap ex esz) (B0 m hf (some ob)) m') with ⟨why,e⟩ | ⟨m',hm',e⟩
   ·rw [e] at hres; cases hres
   rw [e] at hres
   cases hres
   have hOld:=hold ob hob
   obtain ⟨obr,hob',hpv,hcl⟩:=RG (heq ▸ hob)
   obtain ⟨b',s',tot',o,cap',hφ',gx,c1,c2,c3,c4⟩:=CB r1
   have hmn:φ m=none:=by
    cases hx:φ m with
    | none=>rfl
    | some x=>have:=g.dom m x hx; omega
   have hoblk:=g1.blk p' b' s' tot' hφ'
   -- no object that was there lies in that block
   have apart:∀ q oq,AG q hf=some oq->∀ s tot,φ q=some (b',s,tot)->False:=fun q oq hq s tot hx=>by
    have hqn:=g.dom q _ hx
    have hne:p'≠q:=fun e=>by rw [e] at hp'; omega
    by_cases hqa:q∈acc
    ·rcases put.put q oq hq with ⟨_,a⟩ | ⟨a,_⟩
     ·have a':AG q h'=some oq:=(hacc q hqa).1 ▸ a
      rcases g1.sep p' q obr oq b' s' tot' s tot hne hob' a' hφ' (f1.ext _ _ hx) with e | e
      ·have:=hpv hOld.prev q e; omega
      ·rw [((hacc q hqa).2 oq a).prev] at e; cases e
     ·exact a hqa
    ·rcases f1.fresh p' b' s' tot' hφ' with h | h | ⟨r,sr,tr,hr,hne'⟩
     ·have:=g.dom p' _ h; omega
     ·have:=(g.blk q b' s tot hx).2; omega
     ·cases hx':AG r hs with
      | none=>exact hne' hx'
      | some o'=>exact Fu sub put g hqa hq hx (sub.mem hx') hr
   refine ⟨DW φ m (b',s',tot'),⟨AY.le_trans fb.ext (CH hmn),fun q y hy=>?_,by omega,fb.os,fb.tape,fb.out,fb.size,fb.old,fun q b s t hx=>?_,fun q hq hn=>?_⟩,⟨gb.base,fun q y hy=>?_,fun q b s t hy=>?_,fun q oq b s t hq hy=>?_,fun q r oq or b s t s2 t2 hne hq hr hx hy=>?_,fun q r oq or b s t s2 t2 hq hpr hr hx hy=>?_,gb.glob⟩,?_⟩
   ·rcases AS hy with ⟨rfl,_⟩ | ⟨_,hy⟩
    ·exact .inr ⟨hm,by omega⟩
    ·exact .inl hy
   ·rcases AS hx with ⟨rfl,e⟩ | ⟨_,hx⟩
    ·cases e
     rcases f1.fresh p' b' s' tot' hφ' with h | h | ⟨r,sr,tr,hr,hne'⟩
     ·have:=g.dom p' _ h; omega
     ·exact .inr (.inl h)
     ·refine .inr (.inr ⟨r,sr,tr,hr,?_⟩)
      cases hx':AG r hs with
      | none=>exact absurd hx' hne'
      | some o'=>obtain ⟨o0,e0⟩:=sub.in_h hx'; rw [e0]; simp
    ·exact .inl hx
   ·have hne:m≠q:=fun e=>hq (e ▸ hmn)
    rw [An _ _ hne]
    exact fb.dm q hq hn
   ·rcases AS hy with ⟨rfl,_⟩ | ⟨_,hy⟩
    ·omega
    ·have:=gb.dom q y hy; omega
   ·rcases AS hy with ⟨rfl,e⟩ | ⟨_,hy⟩
    ·cases e; exact hoblk
    ·exact gb.blk q b s t hy
   ·rcases AS hy with ⟨rfl,e⟩ | ⟨hne,hy⟩
    ·cases e
     rw [AA] at hq; cases hq
     refine JY (φ1:=φ') (fun q y hq hy=>?_) hOld (hcl (g1.obj p' obr _ _ _ hob' hφ'))
     rw [GK fun e=>by subst e; omega]
     exact back q y hq hy
    ·rw [An _ _ hne] at hq
     exact DG (CH hmn) (gb.obj q oq b s t hq hy)
   ·rcases AS hx with ⟨rfl,e⟩ | ⟨hq',hx⟩
    ·cases e
     rcases AS hy with ⟨e,_⟩ | ⟨hr',hy⟩
     ·exact absurd e hne
     ·rw [An _ _ hr'] at hr
      exact (apart r or hr s2 t2 hy).elim
    ·rw [An _ _ hq'] at hq
     rcases AS hy with ⟨rfl,e⟩ | ⟨hr',hy⟩
     ·cases e
      exact (apart q oq hq s t hx).elim
     ·rw [An _ _ hr'] at hr
      exact gb.sep q r oq or b s t s2 t2 hne hq hr hx hy
   ·rcases AS hx with ⟨rfl,e⟩ | ⟨hq',hx⟩
    ·rw [AA] at hq; cases hq
     rw [hOld.prev] at hpr; cases hpr
    ·rw [An _ _ hq'] at hq
     rcases AS hy with ⟨rfl,e⟩ | ⟨hr',hy⟩
     ·cases e
      exact (apart q oq hq s t hx).elim
     ·rw [An _ _ hr'] at hr
      exact gb.sup q r oq or b s t s2 t2 hq hpr hr hx hy
   ·rw [gx]
    simp only [AD]
    exact ⟨b',s',tot',o,cap',BL _ _ _,rfl,c1,c2,c3,c4⟩
end
theorem Vi {f:FuncId} {run:Heap->R} {k:Nat} {args:List V} {h:Heap} {n:K4} {v:V} {h1:Heap} {n1:K4} (hr:XP k run args h n = .rv v h1 n1) {φ:AY} {w:World} {xs:Array Value} (g:Gam ρ B h n φ w) (hxs:Bo ρ φ args xs.toList)
  (H:∀ (hs:Heap) (Φ:R->Prop),(run hs).sat Φ->Gam ρ B hs n φ w->Jk P f xs w fun x w'=>∃ v h1 n1 φ',Φ (.rv v h1 n1)∧Fr hs h1 φ φ' n n1 w w'∧Gam ρ B h1 n1 φ' w'∧AD ρ φ' v x) :
  Jk P f xs w fun x w'=>∃ φ',Fr h h1 φ φ' n n1 w w'∧Gam ρ B h1 n1 φ' w'∧AD ρ φ' v x:=by
 unfold XP at hr
 obtain ⟨hs,acc,sub,e1⟩:=Em k (todo:=Sl args []) (κ:=fun hs acc=>Vp n h acc (run hs)) (Sub.nil (h:=h))
 rw [e1] at hr
 unfold Vp at hr
 obtain ⟨v1,hh1,e2⟩:=IV (by rw [hr]; trivial)
 rw [e2] at hr
 obtain ⟨m,hm,sat,e3⟩:=Iz (by rw [hr]; trivial)
 rw [e3] at hr
 obtain ⟨hf,put,e4⟩:=JS (by rw [hr]; trivial)
 rw [e4] at hr
 have gs:Gam ρ B hs n φ w:=by
  refine ⟨g.base,g.dom,g.blk,fun p o b s tot hp hx=>?_,fun p q o o' b s tot s' tot' hne hp hq hx hy=>?_,fun p q o o' b s tot s' tot' hp hpr hq hx hy=>?_,g.glob⟩
  ·obtain ⟨o0,e0,rfl,_⟩:=sub.sub p o hp
   exact Q8 (g.obj p o0 b s tot e0 hx)
  ·exfalso
   obtain ⟨o0,e0,_,g0,_⟩:=sub.sub p o hp
   obtain ⟨o1,e1,_,g1,_⟩:=sub.sub q o' hq
   have no:∀ (ob:Ob),Gc ob=true->HU ob=true->False:=fun ob h1 h2=>by
    cases ob with
    | c cs sup prev =>
     cases sup with
     | true=>cases h1
     | false=>cases h2
    | _=>cases h2
   rcases g.sep p q o0 o1 b s tot s' tot' hne e0 e1 hx hy with h | h
   ·exact no o1 g1 (g.sup p q o0 o1 b s tot s' tot' e0 h e1 hx hy)
   ·exact no o0 g0 (g.sup q p o1 o0 b s' tot' s tot e1 h e0 hy hx)
  ·obtain ⟨o0,e0,rfl,_⟩:=sub.sub p o hp
   rw [GM] at hpr; cases hpr
 intro o a K Q hK
 refine H hs _ sat gs o a K Q fun x w' ⟨v',h',n',φ',way,f1,g1,r1⟩=>hK x w' ?_
 exact V0 sub put g f1 g1 r1 way hm hr
end
end Go.Ev

namespace Go.Ev
set_option linter.unusedVariables false
open Go.RowKit
abbrev rdK (pb px:K2) (al bl:List AOp) (cf:FK) (b x:V) (h:Heap) (n:K4):R :=
 CI [] cf al [(px,x),(pb,b)] EA h n fun env t h n=>CI [] cf bl env t h n fun _ _ h n=>.rv (.bool true) h n
abbrev Rd:=FK->V->V->Heap->K4->R
def Nk (l:List Oper):Bool:=l.all fun o=>match o.op with | .defer _=>false | _=>true
theorem Jf {l:List Oper} (h:Nk l=true):∀ o∈l,∀ c,o.op ≠ .defer c:=fun o ho c e=>by
 have:=List.all_eq_true.1 h o ho
 rw [e] at this; cases this
def PK:Code->Option (Array Oper)
 | .region _ ops false=>some ops
 | _=>none
def S0:Code->Option (Array Oper)
 | .block _ c=>PK c
 | _=>none
def Sy (P:Program) (A:ApC):Option Rd :=
 match PK A.asg,S0 A.bod,K2.ofN A.par,K2.ofN A.box with
 | some oa,some ob,some px,some pb=>match Gl P A.ntm oa oa.toList,Gl P A.ntm ob ob.toList with
  | some al,some bl=>if FU [] al [px,pb]&&(FU [] bl (CC al [px,pb])&&(Nk oa.toList&&(Nk ob.toList&&(Nat.blt A.par A.ntm&&(Nat.blt A.box A.ntm && !(A.par == A.box)))))) then some (rdK pb px al bl) else none
  | _,_=>none
 | _,_,_,_=>none
theorem Kl {c:Code} {ops:Array Oper} (h:PK c=some ops):∃ i,c = .region i ops false:=by
 unfold PK at h
 split at h
 ·cases h; exact ⟨_,rfl⟩
 ·cases h
theorem OO {c:Code} {ops:Array Oper} (h:S0 c=some ops):∃ i j,c = .block i (.region j ops false):=by
 unfold S0 at h
 split at h
 ·obtain ⟨j,rfl⟩:=Kl h; exact ⟨_,j,rfl⟩
 ·cases h
def L7 (P:Program) (f:FuncId):Option ApC :=
 match P.funcs[f]? with
 | some fn=>match fn.body with
  | some (.seq (.region _ r0 false) (.seq (.seq (.region _ r1 false) (.block _ (.rangeFunc (.tmp s6) ps asg bod))) (.seq (.region _ r4 false) .ret))) =>
   match r0.toList,r1.toList,r4.toList,ps.toList,fn.results.toList with
   | [o1,o2],[o3],[o4,o5],[par],[.tmp s4]=>match o1.op,o2.op,o3.op,o4.op,o5.op with
    | .box _ (.tmp s0),.assign (.const c2),.move (.tmp s1),.load tL (.tmp s2),.assign (.tmp s12) =>
     if (fn.name == "runtime.NumGoroutine")=false∧fn.ntmps=13∧s6=6∧s4=4∧s0=0∧s1=1∧s2=2∧s12=12∧o1.dst=some 2∧o2.dst=some 4∧o3.dst=some 6∧o4.dst=some 12∧o5.dst=some 4 ∧
      o1.guard=none∧o2.guard=none∧o3.guard=none∧o4.guard=none∧o5.guard=none∧KQ P tL=some false then some ⟨asg,bod,par,2,13⟩ else none
    | _,_,_,_,_=>none
   | _,_,_,_,_=>none
  | _=>none
 | none=>none
def Ij (l:List V) (κ:V->List V->R):R:=@List.rec V (fun _=>R) (.fail "") (fun x xs _=>κ x xs) l
def PD (l:List V) (κ:R):R:=@List.rec V (fun _=>R) κ (BU "") l
def P0 (v:V) (κ:R):R :=
 @V.rec (fun _=>R) (fun _=>Unit) (AR "") (B4 "") (AR "") (Dm "") (AR "") (AR "")
  (fun u=>@Nl.rec (fun _=>R) (.fail "") κ (.fail "") (.fail "") (.fail "") u) (B4 "") (BU "") (AR "") (B4 "") () (fun _ _ _ _=>()) v
def S8 (v:V) (κ:Nat->List V->R):R :=
 @V.rec (fun _=>R) (fun _=>Unit) (AR "") (B4 "") (AR "") (Dm "") (AR "") (AR "") (B4 "") (B4 "")
  (fun f caps _=>κ f caps) (AR "") (B4 "") () (fun _ _ _ _=>()) v
def XQ (o:C3) (κ:R):R:=@Option.rec Ob (fun _=>R) (.fail "") (fun o=>@Ob.rec (fun _=>R) (BU "") (BU "") (Fb "") (.fail "") (fun _ _=>κ) o) o
def LS (g:Nat) (l:List Nat) (κ:R):R:=@List.rec Nat (fun _=>R) (.fail "") (fun x _ ih=>br (Nat.beq x g) κ ih) l
def V1 (f:Nat) (its:List Nat) (cf:FK) (args:List V) (h:Heap) (n:K4):R :=
 Ij args fun v l=>Ij l fun s l=>PD l (P0 v (S8 s fun g caps=>LS g its
  (BA n h (some (.c (.l [.nil .sl]) false none)) fun h=>n.nx fun n1=>BA n1 h (some (.lp f n)) fun h=>n1.nx fun n2 =>
   De (cf (Bb g) (.oth (.yl n1)::caps) h n2) fun _ h m =>
    Bp n1 h fun o=>XQ o (Q4 n h fun cs _ _=>Fy cs 0 fun sv=>BA n h none fun h=>BA n1 h none fun h=>.rv sv h m))))
section
variable {P:Program} {ρ:Env} {B:Nat} {h:Heap} {n:K4}
def UI (φ:AY) (h:Heap) (l:Nat):Prop:=∀ q s tot,φ q=some (l,s,tot)->AG q h=none
theorem UI.step {φ φ1:AY} {h1:Heap} {n1:K4} {w w1:World} {l:Nat} (u:UI φ h l) (hl:l<w.heap.size) (f:Fr h h1 φ φ1 n n1 w w1):UI φ1 h1 l:=fun q s tot hq=>by
 rcases f.fresh q l s tot hq with e | e | ⟨r,s',tot',hr,hne⟩
 ·exact f.dm q (by rw [e]; simp) (u q s tot e)
 ·omega
 ·exact absurd (u r s' tot' hr) hne
theorem Gam.poke {φ:AY} {w:World} (g:Gam ρ B h n φ w) {l:Nat} (u:UI φ h l) (O:Obj) (hno:∀ c e fr,w.heap[l]? ≠ some (.cells c e fr)):Gam ρ B h n φ (w.putObj l O) where
 glob:=fun k c e fr hk=>⟨(g.glob k c e fr hk).1,by rw [World.putObj_heap_other (fun e'=>by subst e'; exact hno _ _ _ (g.glob _ c e fr hk).2)]; exact (g.glob k c e fr hk).2⟩
 base:=by rw [World.putObj_size]; exact g.base
 dom:=g.dom
 blk:=fun p b s t hp=>by rw [World.putObj_size]; exact g.blk p b s t hp
 obj:=fun p o b s t hp hφ=>by
  refine C5 (World.putObj_heap_other fun e=>?_) (g.obj p o b s t hp hφ)
  subst e
  rw [u p s t hφ] at hp; cases hp
 sep:=g.sep
 sup:=g.sup
theorem Fr.around {h1:Heap} {n1:K4} {φ φ1:AY} {w W:World} {l:Nat} {O O0:Obj} (hl:w.heap[l]? = some O0) (f:Fr h h1 φ φ1 n n1 (w.putObj l O) W):Fr h h1 φ φ1 n n1 w (W.putObj l O0):=by
 have hlt:l<w.heap.size:=by
  rcases Nat.lt_or_ge l w.heap.size with e | e
  ·exact e
  ·rw [Array.getElem?_eq_none e] at hl; cases hl
 have hs:=f.size
 rw [World.putObj_size] at hs
 refine ⟨f.ext,f.new,f.nn,f.os,f.tape,f.out,by rw [World.putObj_size]; exact hs,fun b hb hn=>?_,fun q b s t hq=>?_,f.dm⟩
 ·by_cases e:b=l
  ·subst e; rw [World.putObj_heap_same (by omega),hl]
  ·rw [World.putObj_heap_other e,f.old b (by rw [World.putObj_size]; exact hb) hn,World.putObj_heap_other e]
 ·have:=f.fresh q b s t hq
  rwa [World.putObj_size] at this
theorem Fr.poke {h1:Heap} {n1:K4} {φ φ1:AY} {w W:World} {l:Nat} (O:Obj) (hl:w.heap.size≤l) (f:Fr h h1 φ φ1 n n1 w W):Fr h h1 φ φ1 n n1 w (W.putObj l O) :=
 ⟨f.ext,f.new,f.nn,f.os,f.tape,f.out,by rw [World.putObj_size]; exact f.size,fun b hb hn=>by rw [World.putObj_heap_other (by omega)]; exact f.old b hb hn,f.fresh,f.dm⟩
def Ud:Regs:=Regs.all (VP.all (.oth .any))
theorem R4 (p:K2):Bc p Ud = .oth .any:=by simp only [Bc,Ud,Regs.sel_all,VP.sel_all]
theorem WV (hρ:Bh ρ) {cf:CF} {cf2:FK} (hcf:DF P ρ B cf) (h2:∀ f,cf2 (Bb f)=cf f) {A:ApC} {rd:Rd} (hrd:Sy P A=some rd) {fn:FuncId} {box:K4} {x:V} {Φ:R->Prop}
  (hs:(rd cf2 (.ptr box 0) x h n).sat Φ) {φ:AY} {w:World} {tmps:Array Value} {X:Value} {l D:Nat} (g:Gam ρ B h n φ w) (hl:w.heap[l]? = some (.loop (F3 A fn tmps D))) (u:UI φ h l)
  (hsz:tmps.size=A.ntm) (hbox:AD ρ φ (.ptr box 0) (tmps.getD A.box undef)) (hX:AD ρ φ x X) :
  RoundIn Fence.wide 0 P l fn (tmps.setIfInBounds A.par X) A.asg A.bod w fun e w'=>e = .returned (.bool true) ∧
   ∃ v h1 n1 φ',v = .bool true∧Φ (.rv v h1 n1)∧Fr h h1 φ φ' n n1 w w'∧Gam ρ B h1 n1 φ' w':=by
 unfold Sy at hrd
 split at hrd
 ·rename_i oa ob px pb ha hb hpx hpb
  split at hrd
  ·rename_i al bl hal hbl
   split at hrd
   ·rename_i hok
    cases hrd
    simp only [Bool.and_eq_true,Nat.blt_eq] at hok
    obtain ⟨ok1,ok2,nd1,nd2,lt1,lt2,hne⟩:=hok
    have hne:A.par≠A.box:=by simpa using hne
    obtain ⟨i,hasg⟩:=Kl ha
    obtain ⟨j,k,hbod⟩:=OO hb
    have hlt:l<w.heap.size:=by
     rcases Nat.lt_or_ge l w.heap.size with e | e
     ·exact e
     ·rw [Array.getElem?_eq_none e] at hl; cases hl
    have hpp:px≠pb:=fun e=>hne (K2.ofN_inj hpx (e ▸ hpb))
    have ri:RI [] [px,pb] [(px,x),(pb,.ptr box 0)] (Dz px (Dz pb Ud (.ptr box 0)) x) EA:=by
     refine ⟨fun h=>(by cases h),fun p v hp=>?_,fun p hp=>?_,fun p s h=>(by cases h)⟩
     ·by_cases e:px=p
      ·subst e; rw [Db] at hp; cases hp; exact B7 _ _ _
      ·rw [Fj e] at hp
       rw [Bq _ _ e]
       by_cases e':pb=p
       ·subst e'; rw [Db] at hp; cases hp; exact B7 _ _ _
       ·rw [Fj e'] at hp; simp [EY] at hp
     ·by_cases e:px=p
      ·subst e; exact ⟨x,Db⟩
      ·rw [Fj e]
       by_cases e':pb=p
       ·subst e'; exact ⟨_,Db⟩
       ·simp at hp; rcases hp with hp | hp
        ·exact absurd hp.symm e
        ·exact absurd hp.symm e'
    have hT:TR ρ A.ntm φ (Dz px (Dz pb Ud (.ptr box 0)) x) { tmps:=tmps.setIfInBounds A.par X,defers:=[] }:={
     size:=by simp [hsz]
     defers:=rfl
     at_:=fun s p hs hp=>by
      show AD ρ φ _ ((tmps.setIfInBounds A.par X).getD s undef)
      by_cases e:A.par=s
      ·subst e
       rw [hpx] at hp; cases hp
       rw [B7,Array.getD_eq_getD_getElem?,Array.getElem?_setIfInBounds_self_of_lt (by omega)]
       exact hX
      ·rw [Bq _ _ (fun e'=>e (K2.ofN_inj hpx (by rw [e']; exact hp))),Array.getD_eq_getD_getElem?,Array.getElem?_setIfInBounds_ne e,←Array.getD_eq_getD_getElem?]
       by_cases e2:A.box=s
       ·subst e2
        rw [hpb] at hp; cases hp
        rw [B7]; exact hbox
       ·rw [Bq _ _ (fun e'=>e2 (K2.ofN_inj hpb (by rw [e']; exact hp))),R4]
        simp only [AD] }
    have hs:(CI [] cf2 al [(px,x),(pb,.ptr box 0)] EA h n fun env t h n=>CI [] cf2 bl env t h n fun _ _ h n=>.rv (.bool true) h n).sat Φ:=hs
    obtain ⟨env1,t1,t1',h1,n1,e1,ri1,H1⟩:=Di (B:=B) (ops:=oa) hρ hcf h2 hal ok1 ri (R.sat_good hs)
    rw [e1] at hs
    obtain ⟨env2,t2,t2',h2',n2,e2,ri2,H2⟩:=Di (B:=B) (ops:=ob) hρ hcf h2 hbl ok2 ri1 (R.sat_good hs)
    rw [e2] at hs
    have hs:Φ (.rv (.bool true) h2' n2):=hs
    refine roundIn_of_wpIn trivial ?_
    rw [hasg,hbod]
    have c1:=DL (l:=some l) (n:=0) (r:=[]) (.inr (Jf nd1)) (H1 φ _ w hT g (Exit.then (fun a₁ w₁=>∃ w₂,(Instr.beginRound l).run P w₁ = .ok () w₂∧(Code.block j (.region k ob false)).wpIn (Fence.wide.inRound l) 0 P (roundPost P l (fun e w'=>e = .returned (.bool true) ∧
      ∃ v h1 n1 φ',v = .bool true∧Φ (.rv v h1 n1)∧Fr h h1 φ φ' n n1 w w'∧Gam ρ B h1 n1 φ' w')) a₁ w₂) (fun _ _ _=>False)) (wpListIn (Lt (some l)) 0 P oa _ []) fun φ1 a1 w1 f1 g1 T1=>wpListIn_nil (F:=Lt (some l)) ?_)
    ·rw [List.append_nil] at c1
     exact wpIn_region_list c1
    ·have u1:=u.step hlt f1
     have hl1:w1.heap[l]? = some (.loop (F3 A fn tmps D)):=(f1.old l hlt u).trans hl
     refine ⟨_,run_beginRound hl1 rfl,wpIn_block (wpIn_region_list ?_)⟩
     have g1':=g1.poke u1 (.loop { F3 A fn tmps D with state:=.busy }) (fun c e fr h=>by rw [hl1] at h; cases h)
     have c2:=DL (l:=some l) (n:=0) (r:=[]) (.inr (Jf nd2)) (H2 φ1 a1 _ T1 g1' (Exit.inBlock j (roundPost P l (fun e w'=>e = .returned (.bool true) ∧
      ∃ v h1 n1 φ',v = .bool true∧Φ (.rv v h1 n1)∧Fr h h1 φ φ' n n1 w w'∧Gam ρ B h1 n1 φ' w'))) (wpListIn (Lt (some l)) 0 P ob _ []) fun φ2 a2 w2 f2 g2 T2=>wpListIn_nil (F:=Lt (some l)) ?_)
     ·rw [List.append_nil] at c2; exact c2
     ·have hlt1:l<(w1.putObj l (.loop { F3 A fn tmps D with state:=.busy })).heap.size:=by rw [World.putObj_size]; have:=f1.size; omega
      have u2:=u1.step hlt1 f2
      have hl2:w2.heap[l]? = some (.loop { F3 A fn tmps D with state:=.busy }):=(f2.old l hlt1 u1).trans (World.putObj_heap_same (by rwa [World.putObj_size] at hlt1))
      exact ⟨_,_,run_endRound none hl2,rfl,_,h2',n2,φ2,rfl,hs,Fr.trans f1 (f2.around hl1),g2.poke u2 _ (fun c e fr h=>by rw [hl2] at h; cases h)⟩
   ·cases hrd
  ·cases hrd
 ·cases hrd
def Jp (P:Program) (g:FuncId):Prop:=∃ fn c,P.funcs[g]? = some fn∧fn.body=some c∧(fn.name == "runtime.NumGoroutine")=false
theorem EC {l:List V} {κ:V->List V->R} (hg:(Ij l κ).good):∃ x xs,l=x::xs∧Ij l κ=κ x xs:=by
 cases l with
 | nil=>exact hg.elim
 | cons x xs=>exact ⟨x,xs,rfl,rfl⟩
theorem HS {l:List V} {κ:R} (hg:(PD l κ).good):l=[]∧PD l κ=κ:=by
 cases l with
 | nil=>exact ⟨rfl,rfl⟩
 | cons x xs=>exact hg.elim
theorem OE {v:V} {κ:R} (hg:(P0 v κ).good):v = .nil .sl∧P0 v κ=κ:=by
 cases v with
 | nil u=>cases u with
  | sl=>exact ⟨rfl,rfl⟩
  | _=>exact hg.elim
 | _=>exact hg.elim
theorem OK {v:V} {κ:Nat->List V->R} (hg:(S8 v κ).good):∃ f l,v = .fn f l∧S8 v κ=κ f l:=by
 cases v with
 | fn f l=>exact ⟨f,l,rfl,rfl⟩
 | _=>exact hg.elim
theorem RS {o:C3} {κ:R} (hg:(XQ o κ).good):(∃ f b,o=some (.lp f b))∧XQ o κ=κ:=by
 cases o with
 | none=>exact hg.elim
 | some ob=>cases ob with
  | lp f b=>exact ⟨⟨f,b,rfl⟩,rfl⟩
  | _=>exact hg.elim
theorem KN {g:Nat}:∀ {l:List Nat} {κ:R},(LS g l κ).good->g∈l∧LS g l κ=κ
 | [],κ,hg=>hg.elim
 | x::l,κ,hg=>by
  have hg:R.good (br (Nat.beq x g) κ (LS g l κ)):=hg
  show _∧br (Nat.beq x g) κ (LS g l κ)=κ
  cases hb:Nat.beq x g with
  | true=>exact ⟨by rw [Nat.eq_of_beq_eq_true hb]; exact List.mem_cons_self ..,rfl⟩
  | false =>
   rw [hb] at hg
   obtain ⟨h1,h2⟩:=KN (show R.good (LS g l κ) from hg)
   exact ⟨List.mem_cons_of_mem _ h1,h2⟩
theorem BH {o:Oper} {a:Act} {w w':World} {x:Value} {K:Act->World->Prop} {Q:Exit->Act->World->Prop} (hr:(execOp a.eval o).run P w = .ok (.value x) w') (hK:K (a.put o.dst x) w'):o.wpIn Fence.wide 0 P a w K Q :=
 Q7 (l:=none) (.inl rfl) (fun _ _ h=>h) (show o.wp P a w K Q by unfold Oper.wp; rw [hr]; exact hK)
theorem X9 {f:FuncId} {its:List Nat} {A:ApC} (hA:ρ.ap f=some A) (hsh:L7 P f=some A) (hits:∀ g∈its,Jp P g) {cf:CF} {cf2:FK} (hcf:G6 P ρ B cf) (h2:∀ f,cf2 (Bb f)=cf f) {args:List V} {Φ:R->Prop}
  (hr:(V1 f its cf2 args h n).sat Φ) {φ:AY} {w:World} {xs:Array Value} (g:Gam ρ B h n φ w) (hxs:Bo ρ φ args xs.toList) :
  Jk P f xs w fun x w'=>∃ v h1 n1 φ',Φ (.rv v h1 n1)∧Fr h h1 φ φ' n n1 w w'∧Gam ρ B h1 n1 φ' w'∧AD ρ φ' v x:=by
 unfold L7 at hsh
 split at hsh
 next fn hfn =>
  split at hsh
  next i0 r0 i1 r1 b0 s6 ps asg bod i4 r4 hbody =>
   split at hsh
   next o1 o2 o3 o4 o5 par s4 e0 e1 e4 eps ers =>
    split at hsh
    next tS s0 c2 s1 tL s2 s12 p1 p2 p3 p4 p5 =>
     split at hsh
     next hc =>
      obtain ⟨hname,hnt,rfl,rfl,rfl,rfl,rfl,rfl,d1,d2,d3,d4,d5,g1,g2,g3,g4,g5,hagg⟩:=hc
      cases hsh
      have hname:(fn.name == "runtime.NumGoroutine")=false:=hname
      -- the arguments
      unfold V1 at hr
      obtain ⟨v,l,rfl,q1⟩:=EC (R.sat_good hr)
      rw [q1] at hr
      obtain ⟨s,l,rfl,q2⟩:=EC (R.sat_good hr)
      rw [q2] at hr
      obtain ⟨rfl,q3⟩:=HS (R.sat_good hr)
      rw [q3] at hr
      obtain ⟨rfl,q4⟩:=OE (R.sat_good hr)
      rw [q4] at hr
      obtain ⟨it,caps,rfl,q5⟩:=OK (R.sat_good hr)
      rw [q5] at hr
      obtain ⟨hmem,q6⟩:=KN (R.sat_good hr)
      rw [q6,BJ,Bx] at hr
      rcases K4.nx_eq n _ with ⟨m,e⟩ | ⟨n1,hn1,e⟩
      ·rw [e] at hr; exact hr.elim
      rw [e,BJ,Bx] at hr
      rcases K4.nx_eq n1 _ with ⟨m,e⟩ | ⟨n2,hn2,e'⟩
      ·rw [e] at hr; exact hr.elim
      rw [e'] at hr
      have hr:=DM hr
      rw [h2] at hr
      obtain ⟨X0,l0,hx0,r0',hl0⟩:=AF.1 hxs
      obtain ⟨X1,l1,rfl,r1',hl1⟩:=AF.1 hl0
      have hl1:=AN.1 hl1
      subst hl1
      have hX0:=BM r0'
      obtain ⟨cs,hX1,rcs⟩:=Ix r1'
      have hps:ps = #[par]:=by cases ps; simp at eps; rw [eps]
      have hres:fn.results = #[.tmp 4]:=by cases hh:fn.results with | mk l=>rw [hh] at ers; simp at ers; rw [ers]
      -- the box
      obtain ⟨ga,fa⟩:=Cn g (n':=n1) hn1 (e:=tS) (fr:=(0,0)) (c:=#[X0]) (cs:=.l [.nil .sl]) (by simp [Cs.len]) (Ji _)
       (by have:=DP (ρ:=ρ) (φ:=φ) (l:=[.nil .sl]) (xs:=[X0]) (AF.2 ⟨X0,[],rfl,r0',AN.2 rfl⟩) (by simp [hX0,C1,Value.oneCell']); simpa using this)
      generalize hW0:w.alloc (.cells #[X0] tS (0,0))=W0 at ga fa
      have hb0:W0.heap[w.heap.size]? = some (.cells #[X0] tS (0,0)):=by rw [←hW0]; exact World.alloc_heap_new w _
      have gb:=ga.push (.deferred (some []))
      have fb:=Fr.trans fa (Fr.push (h:=B0 n h (some (.c (.l [.nil .sl]) false none))) (n:=n1) (φ:=DW φ n (w.heap.size,0,(#[X0]:Array Value).size)) (.deferred (some [])))
      have hs0:W0.heap.size=w.heap.size+1:=by rw [←hW0,World.size_alloc]
      generalize htm:((((#[X0,X1]:Array Value)++Array.replicate (fn.ntmps - 2) undef).setIfInBounds 2 (.pointer (some ⟨w.heap.size,0,none⟩))).setIfInBounds 4 c2).setIfInBounds 6 X1=tm
      have htsz:tm.size=13:=by rw [←htm,hnt]; simp
      have ht2:tm.getD 2 undef = .pointer (some ⟨w.heap.size,0,none⟩):=by rw [←htm,hnt]; simp [Array.getD_eq_getD_getElem?]
      have ht6:tm.getD 6 undef=X1:=by rw [←htm,hnt]; simp [Array.getD_eq_getD_getElem?]
      intro o a K Q hK
      have hcf':(callFunc f #[X0,X1]).run P w = .ok (.enter f #[X0,X1]) w:=by
       have hname':fn.name ≠ "runtime.NumGoroutine":=by simpa using hname
       simp [callFunc,hfn,hname',hbody]
      have hxe:xs = #[X0,X1]:=by cases xs; simp at hx0; rw [hx0]
      rw [hxe,hcf']
      refine (callsIn_wide (n:=0)).1 (callsIn_of_wp_marks hfn hbody trivial ?_ rfl)
      have ev0:Act.eval { tmps:=(#[X0,X1]:Array Value)++Array.replicate (fn.ntmps - (#[X0,X1]:Array Value).size) undef,defers:=[] } (.tmp 0)=X0:=by
       simp [Act.eval,Array.getD_eq_getD_getElem?,Array.getElem?_append]
      have hcl:X0.cells = #[X0]:=by rw [hX0]; rfl
      refine wpIn_seq (wpIn_region_list ?_)
      rw [e0]
      refine wpListIn_plain g1 fun K1 hK1=>BH (x:=.pointer (some ⟨w.heap.size,0,none⟩)) (w':=W0) (by rw [←hW0]; simp only [execOp,p1,ev0]; simp [Instr.box,newVar,EK,hcl]) (hK1 _ _ ?_)
      refine wpListIn_plain g2 fun K2 hK2=>BH (x:=c2) (w':=W0) (by simp [execOp,p2,Act.eval]) (hK2 _ _ ?_)
      refine wpListIn_nil ?_
      refine wpIn_seq (wpIn_seq (wpIn_region_list ?_))
      rw [e1]
      refine wpListIn_plain g3 fun K3 hK3=>BH (x:=X1) (w':=W0) (by simp only [execOp,p3,Act.eval,Act.put,d1,d2,hnt]; simp [Array.getD_eq_getD_getElem?,Array.getElem?_setIfInBounds]) (hK3 _ _ ?_)
      refine wpListIn_nil ?_
      refine wpIn_block (wpIn_rangeFunc fun fn' _=>?_)
      have hact:((({ tmps:=(#[X0,X1]:Array Value)++Array.replicate (fn.ntmps - (#[X0,X1]:Array Value).size) undef,defers:=[] }:Act).put o1.dst (.pointer (some ⟨w.heap.size,0,none⟩))).put o2.dst c2).put o3.dst X1={ tmps:=tm,defers:=[] }:=by
       rw [d1,d2,d3,←htm]; rfl
      rw [hact]
      generalize hWb:W0.alloc (.deferred (some []))=Wb at gb fb
      have hsb:Wb.heap.size=w.heap.size+2:=by rw [←hWb,World.size_alloc,hs0]
      have hDb:Wb.heap[w.heap.size+1]? = some (.deferred (some [])):=by rw [←hWb,←hs0]; exact World.alloc_heap_new _ _
      have hn1':DW φ n (w.heap.size,0,(#[X0]:Array Value).size) n1=none:=gb.at_n
      have gc:=gb.alloc (p:=n1) (n':=n2) hn1' (by omega) (by omega) (.lp f n) rfl (.loop (F3 ⟨asg,bod,par,2,13⟩ fn' tm W0.heap.size)) 0
       (fun φ' hle w' hw'=>⟨rfl,⟨asg,bod,par,2,13⟩,fn',tm,W0.heap.size,hA,hw',htsz,by rw [ht2]; exact Et hle CS⟩)
      have fc:=Fr.trans fb (Fr.alloc (h:=B0 n h (some (.c (.l [.nil .sl]) false none))) (w:=Wb) (n:=n1) (n':=n2) (p:=n1) hn1' (by omega) (Nat.le_refl _) (by omega) (some (.lp f n)) (.loop (F3 ⟨asg,bod,par,2,13⟩ fn' tm W0.heap.size)) 0)
      generalize hWc:Wb.alloc (.loop (F3 ⟨asg,bod,par,2,13⟩ fn' tm W0.heap.size))=Wc at gc fc
      have hsc:Wc.heap.size=w.heap.size+3:=by rw [←hWc,World.size_alloc,hsb]
      have hDc:Wc.heap[w.heap.size+1]? = some (.deferred (some [])):=by rw [←hWc,Below.heap_alloc _ _ _ (by omega)]; exact hDb
      have hφn:φ n=none:=g.at_n
      have hφn1:φ n1=none:=by
       cases hx:φ n1 with
       | none=>rfl
       | some x=>have:=g.dom n1 x hx; omega
      generalize hφc:DW (DW φ n (w.heap.size,0,(#[X0]:Array Value).size)) n1 (Wb.heap.size,0,0)=φc at gc fc
      have hcn1:φc n1=some (w.heap.size+2,0,0):=by rw [←hφc,BL,hsb]
      have hnn:n1≠n:=fun e=>by rw [e] at hn1; omega
      have hcn:φc n=some (w.heap.size,0,1):=by rw [←hφc,GK hnn,BL]; rfl
      have huD:UI φc (B0 n1 (B0 n h (some (.c (.l [.nil .sl]) false none))) (some (.lp f n))) (w.heap.size+1):=fun q s tot hq=>by
       rw [←hφc] at hq
       rcases AS hq with ⟨_,e⟩ | ⟨_,hq⟩
       ·simp only [Prod.mk.injEq] at e; omega
       ·rcases AS hq with ⟨_,e⟩ | ⟨_,hq⟩
        ·simp only [Prod.mk.injEq] at e; omega
        ·have:=(g.blk q _ _ _ hq).2; omega
      obtain ⟨fng,cg,hg1,hg2,hg3⟩:=hits it hmem
      have call:=F8 hg1 hg2 (by simpa using hg3) (hcf it _ _ n2 _ hr φc Wc (#[.func (.yield (w.heap.size+2)) #[] #[]]++cs) gc (by
       rw [Array.toList_append]
       exact AF.2 ⟨_,cs.toList,rfl,by simp only [AD]; exact ⟨_,_,_,hcn1,rfl⟩,by rw [←hφc]; exact Fk (AY.le_trans (CH hφn) (CH hn1')) rcs⟩))
      refine ⟨w.heap.size+2,[{ target:=.collected (w.heap.size+1),args:=#[] }],Wc,{ target:=.fn (.func it) cs,args:=#[.func (.yield (w.heap.size+2)) #[] #[]] },Wc,it,#[.func (.yield (w.heap.size+2)) #[] #[]]++cs,Wc,?_,?_,?_,?_,fun h=>(by cases h),?_⟩
      ·have:=run_enterLoop_outer (P:=P) (w:=W0) fn' tm ps asg bod
       rw [hs0] at this
       show (Instr.enterLoop fn' tm ps asg bod none).run P W0=_
       rw [this,hWb,hps,←hWc,hs0]; rfl
      ·have e6:Act.eval { tmps:=tm,defers:=[] } (.tmp 6) = .func (.func it) #[] cs:=by show tm.getD 6 undef=_; rw [ht6,hX1]
       simp only [resolve,rangeCall,e6,Deferred.ofValue]
       simp [Act.eval]
      ·intro _ _; trivial
      ·simp [invoke,callFunc,hg1,hg2,show fng.name ≠ "runtime.NumGoroutine" by simpa using hg3]
      ·refine (callsIn_wide (n:=0)).2 (call.mono fun e w3 he=>?_)
       cases e with
       | panicked c=>exact he.elim
       | outgrown=>exact he.elim
       | returned u =>
       obtain ⟨v,h3,n3,φ3,hΦ,f3,g3',_⟩:∃ v h1 n1 φ',UX _ Φ (.rv v h1 n1)∧Fr _ h1 φc φ' n2 n1 Wc w3∧Gam ρ B h1 n1 φ' w3∧AD ρ φ' v u:=he
       have hΦ:(Bp n1 h3 fun o=>XQ o (Q4 n h3 fun cs _ _=>Fy cs 0 fun sv=>BA n h3 none fun h=>BA n1 h none fun h=>.rv sv h n3)).sat Φ:=hΦ
       rw [Bz] at hΦ
       obtain ⟨⟨f',b',hlp⟩,q7⟩:=RS (R.sat_good hΦ)
       rw [q7,G7] at hΦ
       obtain ⟨cs3,sup3,prev3,hbx,q8⟩:=CT (R.sat_good hΦ)
       rw [q8] at hΦ
       obtain ⟨sv,hsv,q9⟩:=GD (R.sat_good hΦ)
       rw [q9,BJ,Bx,BJ,Bx] at hΦ
       have hΦ:Φ (.rv sv (B0 n1 (B0 n h3 none) none) n3):=hΦ
       have h3n:=f3.ext _ _ hcn
       have h3n1:=f3.ext _ _ hcn1
       obtain ⟨_,A3,fn3,tm3,D3,_,hrec,_,_⟩:=g3'.obj n1 _ _ _ _ hlp h3n1
       obtain ⟨c3,e3,fr3,k1,k2,k3,k4,k5⟩:=g3'.obj n _ _ _ _ hbx h3n
       obtain ⟨SV,hSV,rSV,_⟩:=k5 0 sv hsv
       have hD3:w3.heap[w.heap.size+1]? = some (.deferred (some [])):=(f3.old _ (by omega) huD).trans hDc
       have uD3:=huD.step (by omega) f3
       have ul3:UI φ3 (B0 n1 (B0 n h3 none) none) (w.heap.size+2):=fun q s tot hq=>by
        by_cases e:n1=q
        ·subst e; exact AA _ _ _
        ·rw [An _ _ e]
         by_cases e':n=q
         ·subst e'; exact AA _ _ _
         ·rw [An _ _ e']
          cases hq':AG q h3 with
          | none=>rfl
          | some o2 =>
           rcases g3'.sep n1 q _ o2 _ _ _ s tot e hlp hq' h3n1 hq with e2 | e2
           ·cases e2
           ·have:=g3'.sup q n1 o2 _ _ s tot _ _ hq' e2 hlp hq h3n1; cases this
       refine ⟨none,w3.putObj (w.heap.size+2) (.loop { F3 A3 fn3 tm3 D3 with state:=.exhausted }),run_endLoop hrec (by simp),?_⟩
       refine wpIn_seq (wpIn_region_list ?_)
       rw [e4]
       generalize hw4:w3.putObj (w.heap.size+2) (.loop { F3 A3 fn3 tm3 D3 with state:=.exhausted })=w4
       have hb4:w4.heap[w.heap.size]? = some (.cells c3 e3 fr3):=by rw [←hw4,World.putObj_heap_other (by omega)]; exact k1
       have hD4:w4.heap[w.heap.size+1]? = some (.deferred (some [])):=by rw [←hw4,World.putObj_heap_other (by omega)]; exact hD3
       have hld:(execOp (Act.eval { tmps:=tm,defers:=[{ target:=.collected (w.heap.size+1),args:=#[] }]++[] }) o4).run P w4 = .ok (.value SV) w4:=by
        have e2:Act.eval { tmps:=tm,defers:=[{ target:=.collected (w.heap.size+1),args:=#[] }]++[] } (.tmp 2) = .pointer (some ⟨w.heap.size,0,none⟩):=ht2
        simp only [execOp,p4,e2]
        simp [Instr.loadAt,Instr.sureAddr,loadVar,Cx hagg,GQ hb4 hSV]
       refine wpListIn_plain g4 fun K4 hK4=>BH hld (hK4 _ _ ?_)
       refine wpListIn_plain g5 fun K5 hK5=>BH (x:=SV) (w':=w4) (by
        simp only [execOp,p5,Act.eval,Act.put,d4]; simp [Array.getD_eq_getD_getElem?,htsz]) (hK5 _ _ ?_)
       refine wpListIn_nil (wpIn_ret ?_)
       have take:=run_takeDeferred (P:=P) hD4
       rw [d4,d5]
       show LeavesInM Fence.wide 0 P fn _ _ [{ target:=.collected (w.heap.size+1),args:=#[] }] .returning w4
       unfold LeavesInM
       refine ⟨(by intro h; cases h),.inl ⟨w.heap.size+1,_,rfl,take,?_⟩⟩
       unfold LeavesInM LeavesIn
       refine ⟨SV,?_,?_⟩
       ·simp [results,hres,Act.put,htsz,Array.getD_eq_getD_getElem?]
       ·have hna:∀ q,φ q≠none->AG q (B0 n1 (B0 n h3 none) none)=AG q h3:=fun q hq=>by
         rw [An _ _ (fun e:n1=q=>hq (by rw [←e]; exact hφn1)),An _ _ (fun e:n=q=>hq (by rw [←e]; exact hφn))]
        have fz:=((Fr.trans fc f3).show hna).poke (l:=w.heap.size+2) (.loop { F3 A3 fn3 tm3 D3 with state:=.exhausted }) (by omega)
        have gz:=(g3'.aside (p:=n)).aside (p:=n1)
        have gz:=gz.poke ul3 (.loop { F3 A3 fn3 tm3 D3 with state:=.exhausted }) (fun c e fr h=>by rw [hrec] at h; cases h)
        rw [hw4] at fz gz
        have uDz:UI φ3 (B0 n1 (B0 n h3 none) none) (w.heap.size+1):=fun q s tot hq=>by
         by_cases e:n1=q
         ·subst e; exact AA _ _ _
         ·rw [An _ _ e]
          by_cases e':n=q
          ·subst e'; exact AA _ _ _
          ·rw [An _ _ e']; exact uD3 q s tot hq
        exact hK SV _ ⟨sv,_,n3,φ3,hΦ,fz.poke _ (by omega),gz.poke uDz _ (fun c e fr h=>by rw [hD4] at h; cases h),rSV⟩
     next=>cases hsh
    next=>cases hsh
   next=>cases hsh
  next=>cases hsh
 next=>cases hsh
end
end Go.Ev

namespace Go.Ev
set_option linter.unusedVariables false
inductive Ent where
 | code (entry:List V->(S->R)->R) (body:FK->S->Heap->K4->R) (res:S->Heap->K4->R)
 | prim (p:IH)
 | br (k:Nat) (entry:List V->(S->R)->R) (body:FK->S->Heap->K4->R) (res:S->Heap->K4->R)
 | ap (f:Nat) (its:List Nat) (rd:Rd)
 | tree (p:IH)
abbrev D0:=Option Ent
def Ent.toBr (k:Nat) (e:Ent):Ent:=@Ent.rec (fun _=>Ent) (fun en bo re=>.br k en bo re) (fun p=>.prim p) (fun k en bo re=>.br k en bo re) (fun f its rd=>.ap f its rd) (fun p=>.tree p) e
inductive FA where
 | mk (A B C E F G I J L M N O P Q T U:D0)
def FA.sel (d:D) (p:FA):D0 :=
 @FA.rec (fun _=>D0) (fun A B C E F G I J L M N O P Q T U=>@D.rec (fun _=>D0) A B C E F G I J L M N O P Q T U d) p
def Zq (p:FA) (k:D0->R):R:=@FA.rec (fun _=>R) (fun A B C E F G I J L M N O P Q T U=>k A) p
def Zx (p:FA) (k:D0->R):R:=@FA.rec (fun _=>R) (fun A B C E F G I J L M N O P Q T U=>k B) p
def Z9 (p:FA) (k:D0->R):R:=@FA.rec (fun _=>R) (fun A B C E F G I J L M N O P Q T U=>k C) p
def Y9 (p:FA) (k:D0->R):R:=@FA.rec (fun _=>R) (fun A B C E F G I J L M N O P Q T U=>k E) p
def Yq (p:FA) (k:D0->R):R:=@FA.rec (fun _=>R) (fun A B C E F G I J L M N O P Q T U=>k F) p
def YH (p:FA) (k:D0->R):R:=@FA.rec (fun _=>R) (fun A B C E F G I J L M N O P Q T U=>k G) p
def ZA (p:FA) (k:D0->R):R:=@FA.rec (fun _=>R) (fun A B C E F G I J L M N O P Q T U=>k I) p
def Zc (p:FA) (k:D0->R):R:=@FA.rec (fun _=>R) (fun A B C E F G I J L M N O P Q T U=>k J) p
def Yy (p:FA) (k:D0->R):R:=@FA.rec (fun _=>R) (fun A B C E F G I J L M N O P Q T U=>k L) p
def Abk (p:FA) (k:D0->R):R:=@FA.rec (fun _=>R) (fun A B C E F G I J L M N O P Q T U=>k M) p
def WT (p:FA) (k:D0->R):R:=@FA.rec (fun _=>R) (fun A B C E F G I J L M N O P Q T U=>k N) p
def Xu (p:FA) (k:D0->R):R:=@FA.rec (fun _=>R) (fun A B C E F G I J L M N O P Q T U=>k O) p
def Xi (p:FA) (k:D0->R):R:=@FA.rec (fun _=>R) (fun A B C E F G I J L M N O P Q T U=>k P) p
def XF (p:FA) (k:D0->R):R:=@FA.rec (fun _=>R) (fun A B C E F G I J L M N O P Q T U=>k Q) p
def Xb (p:FA) (k:D0->R):R:=@FA.rec (fun _=>R) (fun A B C E F G I J L M N O P Q T U=>k T) p
def WX (p:FA) (k:D0->R):R:=@FA.rec (fun _=>R) (fun A B C E F G I J L M N O P Q T U=>k U) p
def FA.selK (d:D):FA->(D0->R)->R :=
 @D.rec (fun _=>FA->(D0->R)->R) Zq Zx Z9 Y9 Yq YH ZA Zc Yy Abk WT Xu Xi XF Xb WX d
theorem FA.selK_eq (d:D) (p:FA) (k:D0->R):FA.selK d p k=k (FA.sel d p):=by
 cases d <;> cases p <;> rfl
inductive FB where
 | mk (A B C E F G I J L M N O P Q T U:FA)
def FB.sel (d:D) (p:FB):FA :=
 @FB.rec (fun _=>FA) (fun A B C E F G I J L M N O P Q T U=>@D.rec (fun _=>FA) A B C E F G I J L M N O P Q T U d) p
def YV (p:FB) (k:FA->R):R:=@FB.rec (fun _=>R) (fun A B C E F G I J L M N O P Q T U=>k A) p
def YZ (p:FB) (k:FA->R):R:=@FB.rec (fun _=>R) (fun A B C E F G I J L M N O P Q T U=>k B) p
def Ya (p:FB) (k:FA->R):R:=@FB.rec (fun _=>R) (fun A B C E F G I J L M N O P Q T U=>k C) p
def Zg (p:FB) (k:FA->R):R:=@FB.rec (fun _=>R) (fun A B C E F G I J L M N O P Q T U=>k E) p
def Abe (p:FB) (k:FA->R):R:=@FB.rec (fun _=>R) (fun A B C E F G I J L M N O P Q T U=>k F) p
def Aa3 (p:FB) (k:FA->R):R:=@FB.rec (fun _=>R) (fun A B C E F G I J L M N O P Q T U=>k G) p
def Aaj (p:FB) (k:FA->R):R:=@FB.rec (fun _=>R) (fun A B C E F G I J L M N O P Q T U=>k I) p
def Ab9 (p:FB) (k:FA->R):R:=@FB.rec (fun _=>R) (fun A B C E F G I J L M N O P Q T U=>k J) p
def ZV (p:FB) (k:FA->R):R:=@FB.rec (fun _=>R) (fun A B C E F G I J L M N O P Q T U=>k L) p
def Yi (p:FB) (k:FA->R):R:=@FB.rec (fun _=>R) (fun A B C E F G I J L M N O P Q T U=>k M) p
def WO (p:FB) (k:FA->R):R:=@FB.rec (fun _=>R) (fun A B C E F G I J L M N O P Q T U=>k N) p
def WN (p:FB) (k:FA->R):R:=@FB.rec (fun _=>R) (fun A B C E F G I J L M N O P Q T U=>k O) p
def WQ (p:FB) (k:FA->R):R:=@FB.rec (fun _=>R) (fun A B C E F G I J L M N O P Q T U=>k P) p
def Xy (p:FB) (k:FA->R):R:=@FB.rec (fun _=>R) (fun A B C E F G I J L M N O P Q T U=>k Q) p
def WE (p:FB) (k:FA->R):R:=@FB.rec (fun _=>R) (fun A B C E F G I J L M N O P Q T U=>k T) p
def XA (p:FB) (k:FA->R):R:=@FB.rec (fun _=>R) (fun A B C E F G I J L M N O P Q T U=>k U) p
def FB.selK (d:D):FB->(FA->R)->R :=
 @D.rec (fun _=>FB->(FA->R)->R) YV YZ Ya Zg Abe Aa3 Aaj Ab9 ZV Yi WO WN WQ Xy WE XA d
theorem FB.selK_eq (d:D) (p:FB) (k:FA->R):FB.selK d p k=k (FB.sel d p):=by
 cases d <;> cases p <;> rfl
inductive FC where
 | mk (A B C E F G I J L M N O P Q T U:FB)
def FC.sel (d:D) (p:FC):FB :=
 @FC.rec (fun _=>FB) (fun A B C E F G I J L M N O P Q T U=>@D.rec (fun _=>FB) A B C E F G I J L M N O P Q T U d) p
def YF (p:FC) (k:FB->R):R:=@FC.rec (fun _=>R) (fun A B C E F G I J L M N O P Q T U=>k A) p
def Aau (p:FC) (k:FB->R):R:=@FC.rec (fun _=>R) (fun A B C E F G I J L M N O P Q T U=>k B) p
def Aa2 (p:FC) (k:FB->R):R:=@FC.rec (fun _=>R) (fun A B C E F G I J L M N O P Q T U=>k C) p
def Yp (p:FC) (k:FB->R):R:=@FC.rec (fun _=>R) (fun A B C E F G I J L M N O P Q T U=>k E) p
def Aa5 (p:FC) (k:FB->R):R:=@FC.rec (fun _=>R) (fun A B C E F G I J L M N O P Q T U=>k F) p
def Yh (p:FC) (k:FB->R):R:=@FC.rec (fun _=>R) (fun A B C E F G I J L M N O P Q T U=>k G) p
def Aah (p:FC) (k:FB->R):R:=@FC.rec (fun _=>R) (fun A B C E F G I J L M N O P Q T U=>k I) p
def Zl (p:FC) (k:FB->R):R:=@FC.rec (fun _=>R) (fun A B C E F G I J L M N O P Q T U=>k J) p
def Aar (p:FC) (k:FB->R):R:=@FC.rec (fun _=>R) (fun A B C E F G I J L M N O P Q T U=>k L) p
def ZL (p:FC) (k:FB->R):R:=@FC.rec (fun _=>R) (fun A B C E F G I J L M N O P Q T U=>k M) p
def WR (p:FC) (k:FB->R):R:=@FC.rec (fun _=>R) (fun A B C E F G I J L M N O P Q T U=>k N) p
def XH (p:FC) (k:FB->R):R:=@FC.rec (fun _=>R) (fun A B C E F G I J L M N O P Q T U=>k O) p
def Wx (p:FC) (k:FB->R):R:=@FC.rec (fun _=>R) (fun A B C E F G I J L M N O P Q T U=>k P) p
def Wt (p:FC) (k:FB->R):R:=@FC.rec (fun _=>R) (fun A B C E F G I J L M N O P Q T U=>k Q) p
def WI (p:FC) (k:FB->R):R:=@FC.rec (fun _=>R) (fun A B C E F G I J L M N O P Q T U=>k T) p
def Xh (p:FC) (k:FB->R):R:=@FC.rec (fun _=>R) (fun A B C E F G I J L M N O P Q T U=>k U) p
def FC.selK (d:D):FC->(FB->R)->R :=
 @D.rec (fun _=>FC->(FB->R)->R) YF Aau Aa2 Yp Aa5 Yh Aah Zl Aar ZL WR XH Wx Wt WI Xh d
theorem FC.selK_eq (d:D) (p:FC) (k:FB->R):FC.selK d p k=k (FC.sel d p):=by
 cases d <;> cases p <;> rfl
def Kr (k:K3) (T:FC):D0:=FA.sel k.c (FB.sel k.b (FC.sel k.a T))
def V3 (k:K3) (T:FC) (κ:D0->R):R:=@K3.rec (fun _=>R) (fun a b c=>FC.selK a T fun x=>FB.selK b x fun y=>FA.selK c y κ) k
theorem TN (k:K3) (T:FC) (κ:D0->R):V3 k T κ=κ (Kr k T):=by
 cases k; simp only [V3,Kr,FC.selK_eq,FB.selK_eq,FA.selK_eq]
abbrev IW (ps:List K2):List V->Regs->(Regs->R)->R :=
 @List.rec K2 (fun _=>List V->Regs->(Regs->R)->R) (fun l t κ=>PD l (κ t)) (fun p _ ih l t κ=>Ij l fun v l=>N7 p t v fun t=>ih l t κ) ps
theorem Kv:∀ (ps:List K2) (l:List V) (t:Regs) (κ:Regs->R),IW ps l t κ=Rc l ps t κ
 | [],l,t,κ=>by cases l <;> rfl
 | p::ps,l,t,κ=>by
  cases l with
  | nil=>rfl
  | cons v l =>
   show N7 p t v (fun t=>IW ps l t κ)=N7 p t v fun t=>Rc l ps t κ
   rw [MN,MN,Kv]
def P7 (r:R) (res:S->Heap->K4->R):R :=
 @R.rec (fun _=>R) (fun e t h n=>@Ex.rec (fun _=>R) (res t h n) (B4 "") (res t h n) e) (BU "") (fun w=>.fail w) (fun _ _ a b=>.both a b) r
def Od (r:R):R:=@R.rec (fun _=>R) (Fb "") (fun v h n=>.rv v h n) (fun w=>.fail w) (Fb "") r
def UE (v:V) (yes no:R):R :=
 @V.rec (fun _=>R) (fun _=>Unit) (fun _ _=>no) (fun _=>no) (fun _ _=>no) (fun _ _ _ _ _ _=>no) (fun _ _=>no) (fun _ _=>no) (fun _=>no) (fun _=>no) (fun _ _ _=>no) (fun _ _=>no)
  (fun o=>@Ot.rec (fun _=>R) no (fun _=>no) (fun _=>no) yes (fun _ _ _=>no) (fun _ _=>no) no (fun _ _=>no) (fun _ _ _ _=>no) (fun _ _ _ _=>no) (fun _ _ _=>no) (fun _ _=>no) o) () (fun _ _ _ _=>()) v
def apX (f:Nat) (its:List Nat) (rd:Rd) (cf:FK) (args:List V) (h:Heap) (n:K4):R :=
 Ij args fun v l=>UE v (Ij l fun b l=>Ij l fun x l=>PD l (rd cf b x h n)) (V1 f its cf args h n)
def Lc (cf:FK) (o:D0) (args:List V) (h:Heap) (n:K4):R :=
 @Option.rec Ent (fun _=>R) (.fail "") (fun e=>@Ent.rec (fun _=>R) (fun entry body res=>entry args fun t=>P7 (body cf t h n) res) (fun p=>Od (p args h n)) (fun k entry body res=>Od (XP k (fun hs=>entry args fun t=>P7 (body cf t hs n) res) args h n)) (fun f its rd=>apX f its rd cf args h n) (fun p=>p args h n) e) o
def Ch (T:FC) (m:Nat):FK :=
 @Nat.rec (fun _=>FK) (Fb "") (fun _ ih f args h n=>V3 f T fun o=>Lc ih o args h n) m
abbrev U6 (sm:SM) (t:Regs):S:=@List.rec (K2×SL) (fun _=>S) EA (fun x _ ih=>S.put x.2 ih (Bc x.1 t)) sm
theorem Nn {t:Regs}:∀ {sm:SM},Om sm=true->∀ {p:K2} {s:SL},BF p sm=some s->S.get s (U6 sm t)=Bc p t
 | [],_,p,s,h=>by cases h
 | x::l,hok,p,s,h=>by
  simp only [Om,Bool.and_eq_true] at hok
  have e1:U6 (x::l) t=S.put x.2 (U6 l t) (Bc x.1 t):=rfl
  rw [e1]
  simp only [BF] at h
  cases hb:K2.beq x.1 p with
  | true =>
   rw [hb] at h
   have h:some x.2=some s:=h
   cases h
   rw [S.get_put_same,K2.beq_iff.1 hb]
  | false =>
   rw [hb] at h
   have h:BF p l=some s:=h
   have hne:x.2≠s:=fun e=>by
    have:=List.all_eq_true.1 hok.1 _ (GF h)
    rw [←e] at this
    simp [SL.beq,O8.beq_self,O4.beq_self] at this
   rw [S.get_put_ne _ _ hne]
   exact Nn hok.2 h
abbrev T0 (sm:SM) (r:ARes) (t:S) (h:Heap) (κ:V->R):R :=
 @ARes.rec (fun _=>R) (fun p=>Bg sm [] t (.t p) κ) (fun p m=>Bg sm [] t (.t p) fun v=>Iw v fun q off=>Q4 q h fun cs _ _ =>
  @Option.rec Nat (fun _=>R) (Fy cs off κ) (fun m=>BQ cs off m fun y=>E6 y fun l=>κ (.agg l)) m) r
abbrev QA (sm:SM) (rs:List ARes) (t:S) (h:Heap):(List V->R)->R :=
 @List.rec ARes (fun _=>(List V->R)->R) (fun κ=>κ []) (fun r _ ih κ=>T0 sm r t h fun v=>ih fun vs=>κ (v::vs)) rs
abbrev HK (sm:SM) (rs:List ARes) (t:S) (h:Heap) (n:K4):R :=
 QA sm rs t h fun l=>@List.rec V (fun _=>R) (.rv (.tup []) h n) (fun v vs _=>@List.rec V (fun _=>R) (.rv v h n) (fun _ _ _=>.rv (.tup l) h n) vs) l
abbrev ZG (sm:SM) (a:AFn):Ent:=@AFn.rec (fun _=>Ent) (fun ps c rs=>.code (fun l κ=>IW ps l G8 fun t=>κ (U6 sm t)) (fun cf t h n=>Gy sm cf c r0 [] t h n) (fun t h n=>HK sm rs t h n)) a
def ARes.reg (r:ARes):K2:=@ARes.rec (fun _=>K2) (fun p=>p) (fun p _=>p) r
def okF (sm:SM) (a:AFn):Bool:=Om sm&&(EU sm a.code (fun _=>true) []&&a.rs.all fun r=>Gi sm r.reg)
abbrev Xd (sm:SM) (o:Option AFn):D0:=@Option.rec AFn (fun _=>D0) none (fun a=>some (ZG sm a)) o
def XZ (sm:SM) (o:Option AFn):Bool:=@Option.rec AFn (fun _=>Bool) false (fun a=>okF sm a) o
section
variable {P:Program} {ρ:Env} {B:Nat}
def Ai (P:Program) (f:FuncId) (e:Ent):Prop:=∃ sm:SM,Xd sm (FW P f)=some e∧XZ sm (FW P f)=true
theorem Ai.mk {f:FuncId} {e:Ent} (sm:SM) (h:Xd sm (FW P f)=some e) (k:XZ sm (FW P f)=true):Ai P f e:=⟨sm,h,k⟩
def YO (P:Program) (f:FuncId) (e:Ent):Prop:=∃ k en bo re,e = .br k en bo re∧Ai P f (.code en bo re)
def Ct (P:Program) (ρ:Env) (f:FuncId) (e:Ent):Prop:=∃ its rd A,e = .ap f its rd∧ρ.ap f=some A∧L7 P f=some A∧Sy P A=some rd ∧ ∀ g∈its,Jp P g
def Tl (P:Program) (ρ:Env) (B:Nat) (f:FuncId) (p:IH):Prop :=
 ∀ args h n (Φ:R->Prop),(p args h n).sat Φ->∀ φ w (xs:Array Value),Gam ρ B h n φ w->Bo ρ φ args xs.toList →
  Jk P f xs w fun x w'=>∃ v h1 n1 φ',Φ (.rv v h1 n1)∧Fr h h1 φ φ' n n1 w w'∧Gam ρ B h1 n1 φ' w'∧AD ρ φ' v x
def MH (P:Program) (ρ:Env) (B:Nat) (f:FuncId) (e:Ent):Prop:=(Ai P f e∨YO P f e)∨((∃ p,e = .prim p∧Hb P ρ B f p)∨(Ct P ρ f e ∨ ∃ p,e = .tree p∧Tl P ρ B f p))
def Gz (P:Program) (ρ:Env) (B:Nat) (T:FC):Prop:=(∀ f e,Kr (Bb f) T=some e->MH P ρ B f e) ∧ ∀ f A,ρ.ap f=some A->∃ e,Kr (Bb f) T=some e∧Ct P ρ f e
theorem MD {r:R} {Φ:R->Prop} (h:(Od r).sat Φ):∃ v h1 n1,r = .rv v h1 n1∧Φ (.rv v h1 n1):=by
 cases r with
 | rv v h1 n1=>exact ⟨v,h1,n1,rfl,h⟩
 | _=>exact h.elim
theorem Tc {sm:SM} {r:ARes} {t:Regs} {t':S} (ri:RI sm [] [] t t') (hk:Gi sm r.reg=true) (hp:Heap) (κ:V->R):T0 sm r t' hp κ=Ki r t hp κ:=by
 have kn:∀ p,Gi sm p=true->IX sm [] p=true:=fun p h=>by unfold IX; rw [h,Bool.or_true]
 cases r with
 | tmp p=>show Bg sm [] t' (.t p) κ=GX p t κ; rw [ri.tell (kn p hk),Cw]
 | cel p m =>
  show Bg sm [] t' (.t p) _=GX p t _
  rw [ri.tell (kn p hk),Cw,G7]
theorem NW {sm:SM} {t:Regs} {t':S} (ri:RI sm [] [] t t') {hp:Heap}:∀ {rs:List ARes} {κ:List V->R},(∀ r∈rs,Gi sm r.reg=true)->QA sm rs t' hp κ=Jo rs t hp κ
 | [],κ,_=>rfl
 | r::rs,κ,h=>by
  have e1:QA sm (r::rs) t' hp κ=T0 sm r t' hp fun v=>QA sm rs t' hp fun vs=>κ (v::vs):=rfl
  have e2:Jo (r::rs) t hp κ=Ki r t hp fun v=>Jo rs t hp fun vs=>κ (v::vs):=rfl
  rw [e1,e2,Tc ri (h r (List.mem_cons_self ..))]
  congr 1; funext v
  exact NW ri fun r hr=>h r (List.mem_cons_of_mem _ hr)
theorem OA {sm:SM} {t:Regs} {t':S} (ri:RI sm [] [] t t') {hp:Heap} {n:K4} {rs:List ARes} (h:∀ r∈rs,Gi sm r.reg=true):HK sm rs t' hp n=P9 rs t hp n:=NW ri h
def X7 (res:S->Heap->K4->R) (Φ:R->Prop):R->Prop
 | .ok .nrm t h n=>(res t h n).sat Φ
 | .ok .ret t h n=>(res t h n).sat Φ
 | _=>False
theorem HR {res:S->Heap->K4->R} {Φ:R->Prop}:∀ {r:R},(P7 r res).sat Φ->r.sat (X7 res Φ)
 | .ok e t h n,hs=>by
  cases e with
  | nrm=>exact hs
  | ret=>exact hs
  | exit j=>exact hs.elim
 | .rv _ _ _,hs=>hs.elim
 | .fail _,hs=>hs.elim
 | .both a b,hs=>⟨HR (r:=a) hs.1,HR (r:=b) hs.2⟩
theorem Uu {r:ARes} {t:Regs} {h:Heap} {κ:V->R} (hg:(Ki r t h κ).good):∃ v,Ki r t h κ=κ v:=by
 cases r with
 | tmp p=>exact ⟨_,Cw p t κ⟩
 | cel p m =>
  have e1:Ki (.cel p m) t h κ=Iw (Bc p t) fun q off=>IK q h fun cs _ _ =>
    @Option.rec Nat (fun _=>R) (Fy cs off κ) (fun m=>BQ cs off m fun y=>E6 y fun l=>κ (.agg l)) m:=Cw p t _
  rw [e1] at hg
  obtain ⟨q,off,hv,e2⟩:=CL hg
  rw [e2] at hg
  obtain ⟨cs,sup,prev,hq,e3⟩:=CT hg
  rw [e3] at hg
  cases m with
  | none =>
   obtain ⟨v,_,e4⟩:=GD (show R.good (Fy cs off κ) from hg)
   exact ⟨v,e1.trans (e2.trans (e3.trans e4))⟩
  | some m =>
   obtain ⟨hle,y,hyl,hya,e4⟩:=Cm (show R.good (BQ cs off m fun y=>E6 y fun l=>κ (.agg l)) from hg)
   obtain ⟨l,e5,_,_⟩:=Fq y fun l=>κ (.agg l)
   exact ⟨.agg l,e1.trans (e2.trans (e3.trans (Eq.trans e4 e5)))⟩
theorem PX:∀ {rs:List ARes} {t:Regs} {h:Heap} {κ:List V->R},(Jo rs t h κ).good->∃ vs,Jo rs t h κ=κ vs
 | [],t,h,κ,_=>⟨[],rfl⟩
 | r::rs,t,h,κ,hg=>by
  have hg:R.good (Ki r t h fun v=>Jo rs t h fun vs=>κ (v::vs)):=hg
  obtain ⟨v,e1⟩:=Uu hg
  rw [e1] at hg
  obtain ⟨vs,e2⟩:=PX hg
  exact ⟨v::vs,Eq.trans e1 e2⟩
theorem PV {rs:List ARes} {t:Regs} {h:Heap} {n:K4} (hg:(P9 rs t h n).good):∃ v,P9 rs t h n = .rv v h n:=by
 obtain ⟨vs,e⟩:=PX (show R.good (Jo rs t h _) from hg)
 have e:P9 rs t h n=_:=e
 match vs,e with
 | [],e=>exact ⟨_,e⟩
 | [u],e=>exact ⟨_,e⟩
 | u::u'::us,e=>exact ⟨_,e⟩
theorem LZ (hρ:Bh ρ) (hm:P.follows .mixedOrders=true) {cf:CF} {cf2:FK} (hct:G6 P ρ B cf) (hR:FH P ρ B cf) (h2:∀ f,cf2 (Bb f)=cf f) {f:FuncId} {e:Ent} (he:Ai P f e) {args:List V} {h:Heap} {n:K4} {Φ:R->Prop}
  (hr:(Lc cf2 (some e) args h n).sat Φ) {φ:AY} {w:World} {xs:Array Value} (g:Gam ρ B h n φ w) (hxs:Bo ρ φ args xs.toList) :
  Jk P f xs w fun x w'=>∃ v h1 n1 φ',Φ (.rv v h1 n1)∧Fr h h1 φ φ' n n1 w w'∧Gam ρ B h1 n1 φ' w'∧AD ρ φ' v x:=by
 obtain ⟨sm,hd,hok⟩:=he
 cases hf:FW P f with
 | none=>rw [hf] at hd; cases hd
 | some a =>
  rw [hf] at hd hok
  obtain ⟨fn,c,ps,rs,hfn,hb,hps,hrs,hname,rfl⟩:=JZ hf
  have hd:some (Ent.code (fun l κ=>IW ps l G8 fun t=>κ (U6 sm t)) (fun cf t h n=>Gy sm cf (AH P fn.ntmps c) r0 [] t h n) (fun t h n=>HK sm rs t h n))=some e:=hd
  cases hd
  have hok:(Om sm&&(EU sm (AH P fn.ntmps c) (fun _=>true) []&&rs.all fun r=>Gi sm r.reg))=true:=hok
  rw [Bool.and_eq_true,Bool.and_eq_true] at hok
  obtain ⟨hsm,hok⟩:=hok
  have inj:∀ {p q s},BF p sm=some s->BF q sm=some s->p=q:=fun h h'=>Km hsm h h'
  have hr:(IW ps args G8 (fun t=>P7 (Gy sm cf2 (AH P fn.ntmps c) r0 [] (U6 sm t) h n) fun t h n=>HK sm rs t h n)).sat Φ:=hr
  rw [Kv] at hr
  obtain ⟨hlen,t0,e2,H0⟩:=Ir (k:=0) (fun i s hi=>by
   obtain ⟨hi',hi2⟩:=List.getElem?_eq_some_iff.1 hi
   simp at hi2; omega) hps (R.sat_good hr)
  rw [e2] at hr
  simp only [List.length_range] at hlen
  have hxl:xs.size=args.length:=by have:=B8 hxs; simpa using this
  have hxN:xs.size≤fn.ntmps:=by
   rcases Nat.eq_zero_or_pos xs.size with h0 | h0
   ·omega
   ·have:=IB hps (xs.size - 1) (List.mem_range.2 (by omega)); omega
  have hT:TR ρ fn.ntmps φ t0 { tmps:=xs++Array.replicate (fn.ntmps - xs.size) undef,defers:=[] }:={
   size:=by simp; omega
   defers:=rfl
   at_:=fun s p hs hp=>by
    rw [H0 s p hp,if_pos (Nat.zero_le _),Nat.sub_zero,Ja]
    show AD ρ φ _ ((xs++Array.replicate (fn.ntmps - xs.size) undef).getD s undef)
    rw [Array.getD_eq_getD_getElem?]
    by_cases hsx:s<xs.size
    ·rw [Array.getElem?_append_left hsx]
     have hsa:s<args.length:=by omega
     rw [List.getElem?_eq_getElem hsa]
     obtain ⟨x,hx,hrx⟩:=(C7.1 hxs).2 s _ (List.getElem?_eq_getElem hsa)
     rw [Array.getElem?_toList] at hx
     rw [hx]; exact hrx
    ·rw [Array.getElem?_append_right (by omega),Array.getElem?_replicate,if_pos (by omega),List.getElem?_eq_none (by omega)]
     exact DI }
  have hx:=HR hr
  have hOK:=(Su (N:=fn.ntmps) (sm:=sm) hρ hm hct hR h2 c).join hok.1 (RI.start inj fun p s hs=>Nn hsm hs) hx
  intro o a K Q hK
  have hcf':(callFunc f xs).run P w = .ok (.enter f xs) w:=by
   have hname':fn.name ≠ "runtime.NumGoroutine":=by simpa using hname
   simp [callFunc,hfn,hname',hb]
  rw [hcf']
  refine calls_of_wp hfn hb (hOK φ _ w hT g _ fun e t1 h2' n2 hres φ' a' w' tf f1 g1 T1 hk=>?_)
  have fin:(HK sm rs t1 h2' n2).sat Φ->∃ X,(results fn a'.tmps).run P w' = .ok X w'∧K (a.put o.dst X) w':=fun hres=>by
   rw [OA (RI.start inj hk) fun r hr=>List.all_eq_true.1 hok.2 r hr] at hres
   obtain ⟨v,hv⟩:=PV (R.sat_good hres)
   obtain ⟨_,_,Hres⟩:=Md (ρ:=ρ) (B:=B) hrs hv
   rw [hv] at hres
   obtain ⟨X,hX,hrX⟩:=Hres φ' a' w' T1 g1
   exact ⟨X,hX,hK X w' ⟨v,h2',n2,φ',hres,f1,g1,hrX⟩⟩
  cases e with
  | nrm=>obtain ⟨X,hX,hKX⟩:=fin hres; exact ⟨T1.defers,X,hX,hKX⟩
  | exit id=>exact hres.elim
  | ret=>obtain ⟨X,hX,hKX⟩:=fin hres; exact ⟨T1.defers,X,hX,hKX⟩
theorem M7 (hρ:Bh ρ) (hm:P.follows .mixedOrders=true) {T:FC} (hT:Gz P ρ B T):∀ m,G6 P ρ B (fun f=>Ch T m (Bb f))∧FH P ρ B (fun f=>Ch T m (Bb f)):=by
 intro m
 induction m with
 | zero=>exact ⟨fun f args h n Φ hr=>hr.elim,fun f A fn hA box x h n Φ hr=>hr.elim⟩
 | succ m ih =>
  obtain ⟨hct,hR⟩:=ih
  have e1:∀ f args h n,Ch T (m+1) (Bb f) args h n=Lc (Ch T m) (Kr (Bb f) T) args h n:=fun f args h n=>TN (Bb f) T fun o=>Lc (Ch T m) o args h n
  refine ⟨fun f args h n Φ hr φ w xs g hxs=>?_,fun f A fn hA box x h n Φ hr φ w tmps X l D g hrec unc hsz hbox hX=>?_⟩
  ·have hr:(Ch T (m+1) (Bb f) args h n).sat Φ:=hr
   rw [e1] at hr
   cases ho:Kr (Bb f) T with
   | none=>rw [ho] at hr; exact hr.elim
   | some e =>
    rw [ho] at hr
    rcases hT.1 f e ho with (he | ⟨k,en,bo,re,rfl,he⟩) | (⟨p,rfl,hp⟩ | (⟨its,rd,A,rfl,hA,h1,h2,h3⟩ | ⟨p,rfl,hp⟩))
    ·exact LZ hρ hm hct hR (fun _=>rfl) he hr g hxs
    ·obtain ⟨v,h1,n1,hr,hΦ⟩:=MD (show (Od (XP k (fun hs=>en args fun t=>P7 (bo (Ch T m) t hs n) re) args h n)).sat Φ from hr)
     intro o a K Q hK
     exact Vi hr g hxs (fun hs Φ hsat gs=>LZ hρ hm hct hR (fun _=>rfl) he (h:=hs) hsat gs hxs) o a K Q fun x w' ⟨φ',f1,g1,r1⟩=>hK x w' ⟨v,h1,n1,φ',hΦ,f1,g1,r1⟩
    ·obtain ⟨v,h1,n1,hr,hΦ⟩:=MD (show (Od (p args h n)).sat Φ from hr)
     intro o a K Q hK
     exact hp args h n v h1 n1 hr φ w xs g hxs o a K Q fun x w' ⟨φ',f1,g1,r1⟩=>hK x w' ⟨v,h1,n1,φ',hΦ,f1,g1,r1⟩
    ·have hr:(apX f its rd (Ch T m) args h n).sat Φ:=hr
     unfold apX at hr
     obtain ⟨v,l,hl,q1⟩:=EC (R.sat_good hr)
     rw [q1] at hr
     subst hl
     by_cases hv:v = .oth .no
     ·subst hv
      obtain ⟨y,ys,_,hy,_⟩:=AF.1 hxs
      simp only [AD] at hy
     ·have e2:∀ A C:R,UE v A C=C:=fun A C=>by
       cases v with
       | oth o=>cases o with
        | no=>exact absurd rfl hv
        | _=>rfl
       | _=>rfl
      rw [e2] at hr
      exact X9 hA h1 h3 hct (fun _=>rfl) hr g hxs
    ·exact hp args h n Φ hr φ w xs g hxs
  ·obtain ⟨e,ho,its,rd,A',rfl,hA',h1,h2,h3⟩:=hT.2 f A hA
   rw [hA] at hA'; cases hA'
   have hr:(Ch T (m+1) (Bb f) [.oth .no,.ptr box 0,x] h n).sat Φ:=hr
   rw [e1,ho] at hr
   have hr:(rd (Ch T m) (.ptr box 0) x h n).sat Φ:=hr
   exact WV hρ hct.ok (fun _=>rfl) h2 hr g hrec unc hsz hbox hX
theorem On (hρ:Bh ρ) (hm:P.follows .mixedOrders=true) {T:FC} (hT:Gz P ρ B T) (m:Nat):DF P ρ B fun f=>Ch T m (Bb f):=(M7 hρ hm hT m).1.ok
end
end Go.Ev

namespace Go.Ev
open Go.RowKit
set_option linter.unusedVariables false
abbrev AP (w:Bool) (v:V) (h:Heap) (n:K4) (F:KV->R) (κ:KV):R:=gd w v F κ h n
abbrev Ac (v:V):R:=.rv v AL ⟨.d0,.d0,.d0,.d0⟩
abbrev alY (b:K4) (j:D) (h:Heap) (F:K4->R) (κ:KV):R:=b.at j fun r=>Bp r h fun x=>GW x (B3 (F r) κ)
abbrev OG (b:K4) (j:D) (h:Heap) (F:K4->R) (κ:V->Heap->R):R:=alY b j h F fun v h _=>κ v h
abbrev Il (b:K4) (j:D) (h:Heap) (κ:R):R:=b.at j fun r=>Bp r h fun x=>GW x κ
abbrev rnX (b:K4) (j:D) (h:Heap) (F:Heap->R) (κ:V->R):R:=b.at j fun r=>Bp r h fun x=>VI x fun ob=>BA r AL (some ob) fun hx=>Ae (F hx) κ
abbrev G0 (m:Nat) (v:V) (h:Heap) (κ:V->R):R:=Iw v fun q off=>Q4 q h fun cs _ _=>BQ cs off m fun y=>E6 y fun l=>κ (.agg l)
abbrev U:V:=Cb
abbrev Q0:SQ:=.mk U U U U
abbrev g0 (t:S) (k:V->R):R:=@S.rec (fun _=>R) (fun c0 c1 c2 c3 c4 c5 c6 c7=>@SQ.rec (fun _=>R) (fun d0 d1 d2 d3=>k d0) c0) t
abbrev w0 (t:S) (v:V) (k:S->R):R:=@S.rec (fun _=>R) (fun c0 c1 c2 c3 c4 c5 c6 c7=>@SQ.rec (fun _=>R) (fun d0 d1 d2 d3=>k (.mk (.mk v d1 d2 d3) c1 c2 c3 c4 c5 c6 c7)) c0) t
abbrev g1 (t:S) (k:V->R):R:=@S.rec (fun _=>R) (fun c0 c1 c2 c3 c4 c5 c6 c7=>@SQ.rec (fun _=>R) (fun d0 d1 d2 d3=>k d1) c0) t
abbrev w1 (t:S) (v:V) (k:S->R):R:=@S.rec (fun _=>R) (fun c0 c1 c2 c3 c4 c5 c6 c7=>@SQ.rec (fun _=>R) (fun d0 d1 d2 d3=>k (.mk (.mk d0 v d2 d3) c1 c2 c3 c4 c5 c6 c7)) c0) t
abbrev g2 (t:S) (k:V->R):R:=@S.rec (fun _=>R) (fun c0 c1 c2 c3 c4 c5 c6 c7=>@SQ.rec (fun _=>R) (fun d0 d1 d2 d3=>k d2) c0) t
abbrev w2 (t:S) (v:V) (k:S->R):R:=@S.rec (fun _=>R) (fun c0 c1 c2 c3 c4 c5 c6 c7=>@SQ.rec (fun _=>R) (fun d0 d1 d2 d3=>k (.mk (.mk d0 d1 v d3) c1 c2 c3 c4 c5 c6 c7)) c0) t
abbrev g3 (t:S) (k:V->R):R:=@S.rec (fun _=>R) (fun c0 c1 c2 c3 c4 c5 c6 c7=>@SQ.rec (fun _=>R) (fun d0 d1 d2 d3=>k d3) c0) t
abbrev w3 (t:S) (v:V) (k:S->R):R:=@S.rec (fun _=>R) (fun c0 c1 c2 c3 c4 c5 c6 c7=>@SQ.rec (fun _=>R) (fun d0 d1 d2 d3=>k (.mk (.mk d0 d1 d2 v) c1 c2 c3 c4 c5 c6 c7)) c0) t
abbrev g4 (t:S) (k:V->R):R:=@S.rec (fun _=>R) (fun c0 c1 c2 c3 c4 c5 c6 c7=>@SQ.rec (fun _=>R) (fun d0 d1 d2 d3=>k d0) c1) t
abbrev w4 (t:S) (v:V) (k:S->R):R:=@S.rec (fun _=>R) (fun c0 c1 c2 c3 c4 c5 c6 c7=>@SQ.rec (fun _=>R) (fun d0 d1 d2 d3=>k (.mk c0 (.mk v d1 d2 d3) c2 c3 c4 c5 c6 c7)) c1) t
abbrev g5 (t:S) (k:V->R):R:=@S.rec (fun _=>R) (fun c0 c1 c2 c3 c4 c5 c6 c7=>@SQ.rec (fun _=>R) (fun d0 d1 d2 d3=>k d1) c1) t
abbrev w5 (t:S) (v:V) (k:S->R):R:=@S.rec (fun _=>R) (fun c0 c1 c2 c3 c4 c5 c6 c7=>@SQ.rec (fun _=>R) (fun d0 d1 d2 d3=>k (.mk c0 (.mk d0 v d2 d3) c2 c3 c4 c5 c6 c7)) c1) t
abbrev g6 (t:S) (k:V->R):R:=@S.rec (fun _=>R) (fun c0 c1 c2 c3 c4 c5 c6 c7=>@SQ.rec (fun _=>R) (fun d0 d1 d2 d3=>k d2) c1) t
abbrev w6 (t:S) (v:V) (k:S->R):R:=@S.rec (fun _=>R) (fun c0 c1 c2 c3 c4 c5 c6 c7=>@SQ.rec (fun _=>R) (fun d0 d1 d2 d3=>k (.mk c0 (.mk d0 d1 v d3) c2 c3 c4 c5 c6 c7)) c1) t
abbrev g7 (t:S) (k:V->R):R:=@S.rec (fun _=>R) (fun c0 c1 c2 c3 c4 c5 c6 c7=>@SQ.rec (fun _=>R) (fun d0 d1 d2 d3=>k d3) c1) t
abbrev w7 (t:S) (v:V) (k:S->R):R:=@S.rec (fun _=>R) (fun c0 c1 c2 c3 c4 c5 c6 c7=>@SQ.rec (fun _=>R) (fun d0 d1 d2 d3=>k (.mk c0 (.mk d0 d1 d2 v) c2 c3 c4 c5 c6 c7)) c1) t
abbrev g8 (t:S) (k:V->R):R:=@S.rec (fun _=>R) (fun c0 c1 c2 c3 c4 c5 c6 c7=>@SQ.rec (fun _=>R) (fun d0 d1 d2 d3=>k d0) c2) t
abbrev w8 (t:S) (v:V) (k:S->R):R:=@S.rec (fun _=>R) (fun c0 c1 c2 c3 c4 c5 c6 c7=>@SQ.rec (fun _=>R) (fun d0 d1 d2 d3=>k (.mk c0 c1 (.mk v d1 d2 d3) c3 c4 c5 c6 c7)) c2) t
abbrev g9 (t:S) (k:V->R):R:=@S.rec (fun _=>R) (fun c0 c1 c2 c3 c4 c5 c6 c7=>@SQ.rec (fun _=>R) (fun d0 d1 d2 d3=>k d1) c2) t
abbrev w9 (t:S) (v:V) (k:S->R):R:=@S.rec (fun _=>R) (fun c0 c1 c2 c3 c4 c5 c6 c7=>@SQ.rec (fun _=>R) (fun d0 d1 d2 d3=>k (.mk c0 c1 (.mk d0 v d2 d3) c3 c4 c5 c6 c7)) c2) t
abbrev RK (t:S) (k:V->R):R:=@S.rec (fun _=>R) (fun c0 c1 c2 c3 c4 c5 c6 c7=>@SQ.rec (fun _=>R) (fun d0 d1 d2 d3=>k d2) c2) t
abbrev RL (t:S) (v:V) (k:S->R):R:=@S.rec (fun _=>R) (fun c0 c1 c2 c3 c4 c5 c6 c7=>@SQ.rec (fun _=>R) (fun d0 d1 d2 d3=>k (.mk c0 c1 (.mk d0 d1 v d3) c3 c4 c5 c6 c7)) c2) t
abbrev Us (t:S) (k:V->R):R:=@S.rec (fun _=>R) (fun c0 c1 c2 c3 c4 c5 c6 c7=>@SQ.rec (fun _=>R) (fun d0 d1 d2 d3=>k d3) c2) t
abbrev TH (t:S) (v:V) (k:S->R):R:=@S.rec (fun _=>R) (fun c0 c1 c2 c3 c4 c5 c6 c7=>@SQ.rec (fun _=>R) (fun d0 d1 d2 d3=>k (.mk c0 c1 (.mk d0 d1 d2 v) c3 c4 c5 c6 c7)) c2) t
abbrev TL (t:S) (k:V->R):R:=@S.rec (fun _=>R) (fun c0 c1 c2 c3 c4 c5 c6 c7=>@SQ.rec (fun _=>R) (fun d0 d1 d2 d3=>k d0) c3) t
abbrev Ue (t:S) (v:V) (k:S->R):R:=@S.rec (fun _=>R) (fun c0 c1 c2 c3 c4 c5 c6 c7=>@SQ.rec (fun _=>R) (fun d0 d1 d2 d3=>k (.mk c0 c1 c2 (.mk v d1 d2 d3) c4 c5 c6 c7)) c3) t
abbrev VV (t:S) (k:V->R):R:=@S.rec (fun _=>R) (fun c0 c1 c2 c3 c4 c5 c6 c7=>@SQ.rec (fun _=>R) (fun d0 d1 d2 d3=>k d1) c3) t
abbrev VR (t:S) (v:V) (k:S->R):R:=@S.rec (fun _=>R) (fun c0 c1 c2 c3 c4 c5 c6 c7=>@SQ.rec (fun _=>R) (fun d0 d1 d2 d3=>k (.mk c0 c1 c2 (.mk d0 v d2 d3) c4 c5 c6 c7)) c3) t
abbrev Y1 (t:S) (k:V->R):R:=@S.rec (fun _=>R) (fun c0 c1 c2 c3 c4 c5 c6 c7=>@SQ.rec (fun _=>R) (fun d0 d1 d2 d3=>k d2) c3) t
abbrev Z7 (t:S) (v:V) (k:S->R):R:=@S.rec (fun _=>R) (fun c0 c1 c2 c3 c4 c5 c6 c7=>@SQ.rec (fun _=>R) (fun d0 d1 d2 d3=>k (.mk c0 c1 c2 (.mk d0 d1 v d3) c4 c5 c6 c7)) c3) t
abbrev VU (t:S) (k:V->R):R:=@S.rec (fun _=>R) (fun c0 c1 c2 c3 c4 c5 c6 c7=>@SQ.rec (fun _=>R) (fun d0 d1 d2 d3=>k d3) c3) t
abbrev W1 (t:S) (v:V) (k:S->R):R:=@S.rec (fun _=>R) (fun c0 c1 c2 c3 c4 c5 c6 c7=>@SQ.rec (fun _=>R) (fun d0 d1 d2 d3=>k (.mk c0 c1 c2 (.mk d0 d1 d2 v) c4 c5 c6 c7)) c3) t
abbrev g16 (t:S) (k:V->R):R:=@S.rec (fun _=>R) (fun c0 c1 c2 c3 c4 c5 c6 c7=>@SQ.rec (fun _=>R) (fun d0 d1 d2 d3=>k d0) c4) t
abbrev w16 (t:S) (v:V) (k:S->R):R:=@S.rec (fun _=>R) (fun c0 c1 c2 c3 c4 c5 c6 c7=>@SQ.rec (fun _=>R) (fun d0 d1 d2 d3=>k (.mk c0 c1 c2 c3 (.mk v d1 d2 d3) c5 c6 c7)) c4) t
abbrev g17 (t:S) (k:V->R):R:=@S.rec (fun _=>R) (fun c0 c1 c2 c3 c4 c5 c6 c7=>@SQ.rec (fun _=>R) (fun d0 d1 d2 d3=>k d1) c4) t
abbrev w17 (t:S) (v:V) (k:S->R):R:=@S.rec (fun _=>R) (fun c0 c1 c2 c3 c4 c5 c6 c7=>@SQ.rec (fun _=>R) (fun d0 d1 d2 d3=>k (.mk c0 c1 c2 c3 (.mk d0 v d2 d3) c5 c6 c7)) c4) t
abbrev Y4 (t:S) (k:V->R):R:=@S.rec (fun _=>R) (fun c0 c1 c2 c3 c4 c5 c6 c7=>@SQ.rec (fun _=>R) (fun d0 d1 d2 d3=>k d2) c4) t
abbrev XT (t:S) (v:V) (k:S->R):R:=@S.rec (fun _=>R) (fun c0 c1 c2 c3 c4 c5 c6 c7=>@SQ.rec (fun _=>R) (fun d0 d1 d2 d3=>k (.mk c0 c1 c2 c3 (.mk d0 d1 v d3) c5 c6 c7)) c4) t
abbrev g19 (t:S) (k:V->R):R:=@S.rec (fun _=>R) (fun c0 c1 c2 c3 c4 c5 c6 c7=>@SQ.rec (fun _=>R) (fun d0 d1 d2 d3=>k d3) c4) t
abbrev w19 (t:S) (v:V) (k:S->R):R:=@S.rec (fun _=>R) (fun c0 c1 c2 c3 c4 c5 c6 c7=>@SQ.rec (fun _=>R) (fun d0 d1 d2 d3=>k (.mk c0 c1 c2 c3 (.mk d0 d1 d2 v) c5 c6 c7)) c4) t
abbrev g20 (t:S) (k:V->R):R:=@S.rec (fun _=>R) (fun c0 c1 c2 c3 c4 c5 c6 c7=>@SQ.rec (fun _=>R) (fun d0 d1 d2 d3=>k d0) c5) t
abbrev w20 (t:S) (v:V) (k:S->R):R:=@S.rec (fun _=>R) (fun c0 c1 c2 c3 c4 c5 c6 c7=>@SQ.rec (fun _=>R) (fun d0 d1 d2 d3=>k (.mk c0 c1 c2 c3 c4 (.mk v d1 d2 d3) c6 c7)) c5) t
abbrev g21 (t:S) (k:V->R):R:=@S.rec (fun _=>R) (fun c0 c1 c2 c3 c4 c5 c6 c7=>@SQ.rec (fun _=>R) (fun d0 d1 d2 d3=>k d1) c5) t
abbrev w21 (t:S) (v:V) (k:S->R):R:=@S.rec (fun _=>R) (fun c0 c1 c2 c3 c4 c5 c6 c7=>@SQ.rec (fun _=>R) (fun d0 d1 d2 d3=>k (.mk c0 c1 c2 c3 c4 (.mk d0 v d2 d3) c6 c7)) c5) t
abbrev g22 (t:S) (k:V->R):R:=@S.rec (fun _=>R) (fun c0 c1 c2 c3 c4 c5 c6 c7=>@SQ.rec (fun _=>R) (fun d0 d1 d2 d3=>k d2) c5) t
abbrev w22 (t:S) (v:V) (k:S->R):R:=@S.rec (fun _=>R) (fun c0 c1 c2 c3 c4 c5 c6 c7=>@SQ.rec (fun _=>R) (fun d0 d1 d2 d3=>k (.mk c0 c1 c2 c3 c4 (.mk d0 d1 v d3) c6 c7)) c5) t
section
variable {P:Program} {ρ:Env} {B:Nat}
def Ab (P:Program) (ρ:Env) (B:Nat) (f:FuncId) (o:D0):Prop:=∀ e,o=some e->MH P ρ B f e
theorem Ab.no {f:FuncId}:Ab P ρ B f none:=fun e h=>by cases h
theorem Ab.fn {f:FuncId} {e:Ent} (h:Ai P f e):Ab P ρ B f (some e):=fun e' h'=>by cases h'; exact .inl (.inl h)
theorem Ab.br {f:FuncId} {k:Nat} {en:List V->(S->R)->R} {bo:FK->S->Heap->K4->R} {re:S->Heap->K4->R} (h:Ai P f (.code en bo re)):Ab P ρ B f (some (.br k en bo re)):=fun e' h'=>by cases h'; exact .inl (.inr ⟨k,en,bo,re,rfl,h⟩)
theorem Ab.brX {f:FuncId} {e:Ent} {k:Nat} (h:Ai P f e) (he:∃ en bo re,e = .code en bo re):Ab P ρ B f (some (e.toBr k)):=by
 obtain ⟨en,bo,re,rfl⟩:=he
 exact Ab.br h
theorem Ab.pr {f:FuncId} {p:IH} (h:Hb P ρ B f p):Ab P ρ B f (some (.prim p)):=fun e' h'=>by cases h'; exact .inr (.inl ⟨p,rfl,h⟩)
def Ax (s:String):IH:=fun _ _ _=>.fail s
theorem Ab.noP {f:FuncId} (s:String):Ab P ρ B f (some (.prim (Ax s))):=Ab.pr fun args h n v h1 n1 hx=>by cases hx
theorem Ab.ap {f:FuncId} {its:List Nat} {rd:Rd} {A:ApC} (hA:ρ.ap f=some A) (h1:L7 P f=some A) (h2:Sy P A=some rd) (h3:∀ g∈its,Jp P g):Ab P ρ B f (some (.ap f its rd)):=fun e' h'=>by cases h'; exact .inr (.inr (.inl ⟨its,rd,A,rfl,hA,h1,h2,h3⟩))
theorem Ab.tr {f:FuncId} {p:IH} (h:Tl P ρ B f p):Ab P ρ B f (some (.tree p)):=fun e' h'=>by cases h'; exact .inr (.inr (.inr ⟨p,rfl,h⟩))
def C0 (P:Program) (ρ:Env) (B:Nat) (base:Nat) (x:FA):Prop:=∀ d,Ab P ρ B (base+d.toN) (FA.sel d x)
def Ju (P:Program) (ρ:Env) (B:Nat) (base:Nat) (x:FB):Prop:=∀ d,C0 P ρ B (base+16*d.toN) (FB.sel d x)
theorem AJ {base:Nat} {c0 c1 c2 c3 c4 c5 c6 c7 c8 c9 ca cb cc cd ce cf:D0} (h0:Ab P ρ B (base+0) c0) (h1:Ab P ρ B (base+1) c1) (h2:Ab P ρ B (base+2) c2) (h3:Ab P ρ B (base+3) c3) (h4:Ab P ρ B (base+4) c4) (h5:Ab P ρ B (base+5) c5) (h6:Ab P ρ B (base+6) c6) (h7:Ab P ρ B (base+7) c7) (h8:Ab P ρ B (base+8) c8) (h9:Ab P ρ B (base+9) c9) (h10:Ab P ρ B (base+10) ca) (h11:Ab P ρ B (base+11) cb) (h12:Ab P ρ B (base+12) cc) (h13:Ab P ρ B (base+13) cd) (h14:Ab P ρ B (base+14) ce) (h15:Ab P ρ B (base+15) cf):C0 P ρ B base (.mk c0 c1 c2 c3 c4 c5 c6 c7 c8 c9 ca cb cc cd ce cf):=fun d=>by
 cases d
 ·exact h0
 ·exact h1
 ·exact h2
 ·exact h3
 ·exact h4
 ·exact h5
 ·exact h6
 ·exact h7
 ·exact h8
 ·exact h9
 ·exact h10
 ·exact h11
 ·exact h12
 ·exact h13
 ·exact h14
 ·exact h15
theorem IT {base:Nat} {c0 c1 c2 c3 c4 c5 c6 c7 c8 c9 ca cb cc cd ce cf:FA} (h0:C0 P ρ B (base+16*0) c0) (h1:C0 P ρ B (base+16*1) c1) (h2:C0 P ρ B (base+16*2) c2) (h3:C0 P ρ B (base+16*3) c3) (h4:C0 P ρ B (base+16*4) c4) (h5:C0 P ρ B (base+16*5) c5) (h6:C0 P ρ B (base+16*6) c6) (h7:C0 P ρ B (base+16*7) c7) (h8:C0 P ρ B (base+16*8) c8) (h9:C0 P ρ B (base+16*9) c9) (h10:C0 P ρ B (base+16*10) ca) (h11:C0 P ρ B (base+16*11) cb) (h12:C0 P ρ B (base+16*12) cc) (h13:C0 P ρ B (base+16*13) cd) (h14:C0 P ρ B (base+16*14) ce) (h15:C0 P ρ B (base+16*15) cf):Ju P ρ B base (.mk c0 c1 c2 c3 c4 c5 c6 c7 c8 c9 ca cb cc cd ce cf):=fun d=>by
 cases d
 ·exact h0
 ·exact h1
 ·exact h2
 ·exact h3
 ·exact h4
 ·exact h5
 ·exact h6
 ·exact h7
 ·exact h8
 ·exact h9
 ·exact h10
 ·exact h11
 ·exact h12
 ·exact h13
 ·exact h14
 ·exact h15
def FQ:FA:=.mk none none none none none none none none none none none none none none none none
def Ho:FB:=.mk FQ FQ FQ FQ FQ FQ FQ FQ FQ FQ FQ FQ FQ FQ FQ FQ
theorem PZ (d:D):FA.sel d FQ=none:=by cases d <;> rfl
theorem PL (d:D):FB.sel d Ho=FQ:=by cases d <;> rfl
theorem C9 {base:Nat}:C0 P ρ B base FQ:=fun d=>by rw [PZ]; exact Ab.no
theorem BV {base:Nat}:Ju P ρ B base Ho:=fun d=>by rw [PL]; exact C9
theorem ofN_lt {x:Nat} {d:D} (h:D.ofN x=d) (hd:d ≠ .d15):x=d.toN:=by
 rcases Nat.lt_or_ge x 15 with hx | hx
 ·rw [←h,D.toN_ofN x (by omega)]
 ·exfalso
  obtain ⟨y,rfl⟩:∃ y,x=y+15:=⟨x - 15,by omega⟩
  exact hd h.symm
theorem SA {c0 c1 c2 c3 c4 c5 c6 c7 c8 c9 ca cb cc cd ce:FB} (h0:Ju P ρ B (256*0) c0) (h1:Ju P ρ B (256*1) c1) (h2:Ju P ρ B (256*2) c2) (h3:Ju P ρ B (256*3) c3) (h4:Ju P ρ B (256*4) c4) (h5:Ju P ρ B (256*5) c5) (h6:Ju P ρ B (256*6) c6) (h7:Ju P ρ B (256*7) c7) (h8:Ju P ρ B (256*8) c8) (h9:Ju P ρ B (256*9) c9) (h10:Ju P ρ B (256*10) ca) (h11:Ju P ρ B (256*11) cb) (h12:Ju P ρ B (256*12) cc) (h13:Ju P ρ B (256*13) cd) (h14:Ju P ρ B (256*14) ce):∀ f e,Kr (Bb f) (.mk c0 c1 c2 c3 c4 c5 c6 c7 c8 c9 ca cb cc cd ce Ho)=some e->MH P ρ B f e:=fun f e h=>by
 have hc:(D.ofN (f % 16)).toN=f % 16:=D.toN_ofN _ (by omega)
 have hb:(D.ofN (f / 16 % 16)).toN=f / 16 % 16:=D.toN_ofN _ (by omega)
 have key:∀ x:FB,Ju P ρ B (256*(f / 256)) x->FA.sel (D.ofN (f % 16)) (FB.sel (D.ofN (f / 16 % 16)) x)=some e->MH P ρ B f e:=fun x hx hs=>by
  have:=hx (D.ofN (f / 16 % 16)) (D.ofN (f % 16)) e hs
  rw [hc,hb] at this
  have e1:256*(f / 256)+16*(f / 16 % 16)+f % 16=f:=by omega
  rw [e1] at this; exact this
 have h:FA.sel (D.ofN (f % 16)) (FB.sel (D.ofN (f / 16 % 16)) (FC.sel (D.ofN (f / 256)) (.mk c0 c1 c2 c3 c4 c5 c6 c7 c8 c9 ca cb cc cd ce Ho)))=some e:=h
 generalize hd:D.ofN (f / 256)=d at h
 cases d
 ·have:=ofN_lt hd (by intro h; cases h); rw [show D.toN .d0=0 from rfl] at this; exact key c0 (by rw [this]; exact h0) h
 ·have:=ofN_lt hd (by intro h; cases h); rw [show D.toN .d1=1 from rfl] at this; exact key c1 (by rw [this]; exact h1) h
 ·have:=ofN_lt hd (by intro h; cases h); rw [show D.toN .d2=2 from rfl] at this; exact key c2 (by rw [this]; exact h2) h
 ·have:=ofN_lt hd (by intro h; cases h); rw [show D.toN .d3=3 from rfl] at this; exact key c3 (by rw [this]; exact h3) h
 ·have:=ofN_lt hd (by intro h; cases h); rw [show D.toN .d4=4 from rfl] at this; exact key c4 (by rw [this]; exact h4) h
 ·have:=ofN_lt hd (by intro h; cases h); rw [show D.toN .d5=5 from rfl] at this; exact key c5 (by rw [this]; exact h5) h
 ·have:=ofN_lt hd (by intro h; cases h); rw [show D.toN .d6=6 from rfl] at this; exact key c6 (by rw [this]; exact h6) h
 ·have:=ofN_lt hd (by intro h; cases h); rw [show D.toN .d7=7 from rfl] at this; exact key c7 (by rw [this]; exact h7) h
 ·have:=ofN_lt hd (by intro h; cases h); rw [show D.toN .d8=8 from rfl] at this; exact key c8 (by rw [this]; exact h8) h
 ·have:=ofN_lt hd (by intro h; cases h); rw [show D.toN .d9=9 from rfl] at this; exact key c9 (by rw [this]; exact h9) h
 ·have:=ofN_lt hd (by intro h; cases h); rw [show D.toN .d10=10 from rfl] at this; exact key ca (by rw [this]; exact h10) h
 ·have:=ofN_lt hd (by intro h; cases h); rw [show D.toN .d11=11 from rfl] at this; exact key cb (by rw [this]; exact h11) h
 ·have:=ofN_lt hd (by intro h; cases h); rw [show D.toN .d12=12 from rfl] at this; exact key cc (by rw [this]; exact h12) h
 ·have:=ofN_lt hd (by intro h; cases h); rw [show D.toN .d13=13 from rfl] at this; exact key cd (by rw [this]; exact h13) h
 ·have:=ofN_lt hd (by intro h; cases h); rw [show D.toN .d14=14 from rfl] at this; exact key ce (by rw [this]; exact h14) h
 ·have h:FA.sel (D.ofN (f % 16)) (FB.sel (D.ofN (f / 16 % 16)) Ho)=some e:=h
  rw [PL,PZ] at h; cases h
def Ia (P:Program) (fs:List Nat):Env:={ v:=fun _=>.bool true,ap:=fun f=>@Bool.rec (fun _=>Option ApC) none (L7 P f) (fs.contains f) }
def MK (P:Program) (g:FuncId):Bool:=match P.funcs[g]? with
 | some fn=>fn.body.isSome && !(fn.name == "runtime.NumGoroutine")
 | none=>false
theorem OW {g:FuncId} (h:MK P g=true):Jp P g:=by
 unfold MK at h
 split at h
 ·rename_i fn hfn
  simp only [Bool.and_eq_true,Bool.not_eq_true'] at h
  obtain ⟨c,hc⟩:=Option.isSome_iff_exists.1 h.1
  exact ⟨fn,c,hfn,hc,h.2⟩
 ·cases h
def X5 (P:Program) (f:FuncId):Option Rd:=(L7 P f).bind (Sy P)
theorem Ct.mk {fs:List Nat} {f:FuncId} {its:List Nat} {rd:Rd} (hf:fs.contains f=true) (h:X5 P f=some rd) (hb:its.all (MK P)=true):Ct P (Ia P fs) f (.ap f its rd):=by
 unfold X5 at h
 cases hA:L7 P f with
 | none=>rw [hA] at h; cases h
 | some A =>
  rw [hA] at h
  exact ⟨its,rd,A,rfl,by show @Bool.rec (fun _=>Option ApC) none (L7 P f) (fs.contains f)=_; rw [hf]; exact hA,hA,h,fun g hg=>OW (List.all_eq_true.1 hb g hg)⟩
theorem Ab.apE {f:FuncId} {e:Ent} (h:Ct P ρ f e):Ab P ρ B f (some e):=fun e' h'=>by cases h'; exact .inr (.inr (.inl h))
theorem Gz.mk {fs:List Nat} {T:FC} (h:∀ f e,Kr (Bb f) T=some e->MH P (Ia P fs) B f e) (ha:∀ f∈fs,∃ e,Kr (Bb f) T=some e∧Ct P (Ia P fs) f e):Gz P (Ia P fs) B T:=by
 refine ⟨h,fun f A hA=>?_⟩
 have hA:@Bool.rec (fun _=>Option ApC) none (L7 P f) (fs.contains f)=some A:=hA
 cases hc:fs.contains f with
 | false=>rw [hc] at hA; cases hA
 | true=>exact ha f (List.contains_iff_mem.1 hc)
theorem RU {Q:Nat->Prop}:∀ f∈([]:List Nat),Q f:=fun f h=>by cases h
theorem GH {Q:Nat->Prop} {x:Nat} {l:List Nat} (h:Q x) (k:∀ f∈l,Q f):∀ f∈x::l,Q f:=fun f hf=>by
 rcases List.mem_cons.1 hf with rfl | hf
 ·exact h
 ·exact k f hf
theorem IQ (hρ:Bh ρ) (hm:P.follows .mixedOrders=true) {T:FC} (hT:∀ B,Gz P ρ B T) {m:Nat} {f:FuncId} {fn:Func} {args:List V}
  (hf:P.funcs[f]? = some fn) (hb:fn.body.isSome=true) (hn:(fn.name == "runtime.NumGoroutine")=false) (hx:Fn (Ch T m (Bb f) args AL IL)=true) {xs:Array Value} (hr:Bo ρ (fun _=>none) args xs.toList) (w:World) (hgl:Rg ρ w:=by intro b c e fr h; have h:(none:Option (Array Value×TypeId×(Nat×Nat)))=some (c,e,fr):=h; cases h) :
  Calls P f xs w fun e w'=>e = .returned (.bool true)∧Below w.heap.size w w':=by
 obtain ⟨h1,n1,hx⟩:=Sz hx
 obtain ⟨c,hc⟩:=Option.isSome_iff_exists.1 hb
 have:=F8 (R:=fun x w'=>x = .bool true∧Below w.heap.size w w') hf hc (by simpa using hn) (fun o a K Q hK =>
  On (B:=w.heap.size) hρ hm (hT _) m f args AL IL _ h1 n1 hx (fun _=>none) w xs (Iy w IL hgl) hr o a K Q fun x w' ⟨φ',f1,_,hr⟩=>hK x w' ⟨by simpa only [AD] using hr,J7 f1⟩)
 refine this.mono fun e w' he=>?_
 cases e with
 | returned v=>exact ⟨by rw [he.1],he.2⟩
 | _=>exact he.elim
end
end Go.Ev

namespace Go.Ev
set_option linter.unusedVariables false
open Go.RowKit
def JT:IH:=fun args h n =>
 Ij args fun v l=>PD l (Du v (.fail "") fun p=>UW p h fun es bs c=>Hq h n (.m es bs c) fun h n'=>.rv (.map n) h n')
def Qe (P:Program) (f:FuncId):Option FuncId :=
 match P.funcs[f]? with
 | some fn=>match fn.body with
  | some (.seq (.region _ r0 false) (.seq (.seq (.region _ r1 false) (.cond (.tmp 4) _ .skip)) (.seq (.region _ r3 false) .ret))) =>
   match r0.toList,r1.toList,r3.toList,fn.results.toList with
   | [o1],[o2,o3],[o4,o5,o6,o7,o8],[.tmp s2]=>match o1.op,o2.op,o3.op,o4.op,o5.op,o6.op,o7.op,o8.op with
    | .assign (.const c1),.move (.tmp s0),.binOp .eql t3 (.tmp s3) (.const (.map none)) _,.move (.tmp s0'),.makeInterface t5 (.tmp s5),.call ct,.typeAssert (.tmp s7) _ t7 false,.assign (.tmp s8) =>
     match ct.callee,ct.args.toList,P.underlying t5 with
     | .value (.func g),[.tmp s6],some (.map _ _) =>
      if (fn.name == "runtime.NumGoroutine")=false∧fn.ntmps=9∧s2=2∧s0=0∧s0'=0∧s3=3∧s5=5∧s6=6∧s7=7∧s8=8∧t3=t5∧t7=t5∧o1.dst=some 2∧o2.dst=some 3∧o3.dst=some 4∧o4.dst=some 5∧o5.dst=some 6∧o6.dst=some 7∧o7.dst=some 8∧o8.dst=some 2 ∧
       o1.guard=none∧o2.guard=none∧o3.guard=none∧o4.guard=none∧o5.guard=none∧o6.guard=none∧o7.guard=none∧o8.guard=none then some g else none
     | _,_,_=>none
    | _,_,_,_,_,_,_,_=>none
   | _,_,_,_=>none
  | _=>none
 | none=>none
section
variable {P:Program} {ρ:Env} {B:Nat}
theorem Oq (w:World) (t k e:TypeId) (p:Option Nat) (h:P.underlying t=some (.map k e)):(binOp .eql t (.map p) (.map none)).run P w = .ok (.bool p.isNone) w:=by
 have key:∀ d,(Op.equalIn (d+1) t (.map p) (.map none)).run P w = .ok p.isNone w:=fun d=>by cases p <;> simp [Op.equalIn,run_underlying h]
 simp only [binOp]
 simp [show Op.equal t (.map p) (.map none)=Op.equalIn (9999+1) t (.map p) (.map none) from rfl,key 9999]
theorem Ks (w:World) (t xT k e:TypeId) (v:Value) (h:P.underlying t=some (.map k e)):(Instr.typeAssert (.iface t v) xT t false).run P w = .ok v w:=by
 simp [Instr.typeAssert,run_underlying h,go_sem,Result.andThen]
theorem R3 {w:World} {r:Nat} {es:Array MapEntry} {c:Nat} (t:TypeId) (hb:w.heap[r]? = some (.map es c)) :
  (Extern.MapsClone.clone #[.iface t (.map (some r))]).run P w = .ok (.iface t (.map (some w.heap.size))) (w.alloc (.map es c)):=by
 have e:Extern.MapsClone.clone #[.iface t (.map (some r))]=(getObj r >>= fun o=>match o with
   | .map entries clock=>(newObj (.map entries clock) >>= fun n=>pure (.iface t (.map (some n))))
   | _=>stuck "maps.clone: a map expected"):=rfl
 rw [e]
 have hg:(getObj r).run P w = .ok (.map es c) w:=by simp [getObj,Sem.run,hb]
 simp [hg,Result.andThen,go_sem]
theorem Nw {f g:FuncId} (hc:Qe P f=some g) (b:Bare P g Extern.MapsClone.clone):Hb P ρ B f JT:=by
 intro args h n v h1 n1 hx φ w xs gm hr
 have hg:(JT args h n).good:=by rw [hx]; trivial
 unfold JT at hx hg
 obtain ⟨m,l,rfl,q1⟩:=EC hg
 rw [q1] at hx hg
 obtain ⟨rfl,q2⟩:=HS hg
 rw [q2] at hx hg
 rcases Df hg with ⟨_,q3⟩ | ⟨p,rfl,q3⟩
 ·rw [q3] at hg; exact hg.elim
 rw [q3,KK] at hx hg
 obtain ⟨es,bs,c,hp,q4⟩:=E0 hg
 rw [q4,HV] at hx hg
 obtain ⟨n',hn,q5⟩:=Bn hg
 rw [q5] at hx
 cases hx
 obtain ⟨X,l0,hX,r0,hl0⟩:=AF.1 hr
 have hl0:=AN.1 hl0
 subst hl0
 obtain ⟨bk,s,tot,hφ,rfl⟩:=EP r0
 obtain ⟨ents,k1,k2,k3⟩:=gm.obj p _ bk s tot hp hφ
 have hxe:xs = #[.map (some bk)]:=by cases xs; simp at hX; rw [hX]
 subst hxe
 unfold Qe at hc
 split at hc
 next fn hfn =>
  split at hc
  next i0 r0 i1 r1 cthen i3 r3 hbody =>
   split at hc
   next o1 o2 o3 o4 o5 o6 o7 o8 s2 e0 e1 e3 ers =>
    split at hc
    next c1 s0 t3 s3 t3' s0' t5 s5 ct s7 t7' t7 s8 p1 p2 p3 p4 p5 p6 p7 p8 =>
     split at hc
     next g' s6 kt et hcal hargs hu =>
      split at hc
      next hc' =>
       cases hc
       obtain ⟨hname,hnt,rfl,rfl,rfl,rfl,rfl,rfl,rfl,rfl,rfl,rfl,d1,d2,d3,d4,d5,d6,d7,d8,g1,g2,g3,g4,g5,g6,g7,g8⟩:=hc'
       have hres:fn.results = #[.tmp 2]:=by cases hh:fn.results with | mk l=>rw [hh] at ers; simp at ers; rw [ers]
       have hcargs:ct.args = #[.tmp 6]:=by cases hh:ct.args with | mk l=>rw [hh] at hargs; simp at hargs; rw [hargs]
       have e1':(callFunc f #[.map (some bk)]).run P w = .ok (.enter f #[.map (some bk)]) w:=by
        have hname':fn.name ≠ "runtime.NumGoroutine":=by simpa using hname
        simp [callFunc,hfn,hname',hbody]
       intro o a K Q hK
       rw [e1']
       refine (callsIn_wide (n:=0)).1 (callsIn_of_wp_marks hfn hbody trivial ?_ rfl)
       rw [hnt]
       simp only [List.size_toArray,List.length_cons,List.length_nil,Nat.reduceAdd,Nat.reduceSub,Array.replicate_succ,Array.replicate_zero,List.push_toArray,List.append_toArray,List.nil_append,List.cons_append]
       refine wpIn_seq (wpIn_region_list ?_)
       rw [e0]
       refine wpListIn_plain g1 fun K1 hK1=>BH (x:=c1) (w':=w) (by simp [execOp,p1,Act.eval]) (hK1 _ _ ?_)
       refine wpListIn_nil ?_
       refine wpIn_seq (wpIn_seq (wpIn_region_list ?_))
       rw [e1,d1]
       refine wpListIn_plain g2 fun K2 hK2=>BH (x:=.map (some bk)) (w':=w) (by simp [execOp,p2,Act.eval,Act.put]) (hK2 _ _ ?_)
       rw [d2]
       refine wpListIn_plain g3 fun K3 hK3=>BH (x:=.bool false) (w':=w) (by simp [execOp,p3,Act.eval,Act.put,eqGuard,Oq w _ _ _ _ hu]) (hK3 _ _ ?_)
       rw [d3]
       refine wpListIn_nil (wpIn_cond_false (by simp [Act.eval,Act.put]) (wpIn_skip ?_))
       refine wpIn_seq (wpIn_region_list ?_)
       rw [e3]
       refine wpListIn_plain g4 fun K4 hK4=>BH (x:=.map (some bk)) (w':=w) (by simp [execOp,p4,Act.eval,Act.put]) (hK4 _ _ ?_)
       rw [d4]
       refine wpListIn_plain g5 fun K5 hK5=>BH (x:=.iface t7 (.map (some bk))) (w':=w) (by simp [execOp,p5,Act.eval,Act.put,Instr.makeInterface,run_underlying hu]) (hK5 _ _ ?_)
       rw [d5]
       refine wpListIn_plain g6 fun K6 hK6=>BH (x:=.iface t7 (.map (some w.heap.size))) (w':=w.alloc (.map ents c)) (by
        simp only [execOp,p6,resolve,hcal,hcargs,Deferred.ofValue,Act.eval,Act.put]
        have:=b.run (R3 (P:=P) t7 k1)
        simp [invoke,Act.eval,this]) (hK6 _ _ ?_)
       rw [d6]
       refine wpListIn_plain g7 fun K7 hK7=>BH (x:=.map (some w.heap.size)) (w':=w.alloc (.map ents c)) (by simp [execOp,p7,Act.eval,Act.put,Ks _ _ _ _ _ _ hu]) (hK7 _ _ ?_)
       rw [d7]
       refine wpListIn_plain g8 fun K8 hK8=>BH (x:=.map (some w.heap.size)) (w':=w.alloc (.map ents c)) (by simp [execOp,p8,Act.eval,Act.put]) (hK8 _ _ ?_)
       rw [d8]
       refine wpListIn_nil (wpIn_ret ?_)
       show LeavesInM Fence.wide 0 P fn _ _ [] .returning (w.alloc (.map ents c))
       unfold LeavesInM LeavesIn
       refine ⟨.map (some w.heap.size),by simp [results,hres,Act.put],?_⟩
       refine hK _ _ ⟨DW φ n (w.heap.size,0,0),Fr.alloc gm.at_n (by omega) (Nat.le_refl _) (by omega) _ _ 0,gm.alloc gm.at_n (by omega) (by omega) (.m es bs c) rfl _ 0 fun φ' hle w' hw'=>⟨ents,hw',LQ hle k2,k3⟩,?_⟩
       simp only [AD]
       exact ⟨w.heap.size,0,0,BL _ _ _,rfl⟩
      next=>cases hc
     next=>cases hc
    next=>cases hc
   next=>cases hc
  next=>cases hc
 next=>cases hc
end
end Go.Ev

namespace Go.Ev
set_option linter.unusedVariables false
theorem HA.setS_sel (d:D) (p:HA):HA.setS d p (HA.sel d p)=p:=by cases d <;> cases p <;> rfl
theorem HB.setS_sel (d:D) (p:HB):HB.setS d p (HB.sel d p)=p:=by cases d <;> cases p <;> rfl
theorem HC.setS_sel (d:D) (p:HC):HC.setS d p (HC.sel d p)=p:=by cases d <;> cases p <;> rfl
theorem Heap.setS_sel (d:D) (p:Heap):Heap.setS d p (Heap.sel d p)=p:=by cases d <;> cases p <;> rfl
theorem P1 (p:K4) (h:Heap):B0 p h (AG p h)=h:=by
 cases p
 simp only [AG,B0,Fc,Heap.setK_eq,HC.setK_eq,HB.setK_eq,HA.setK_eq,Heap.selK_eq,HC.selK_eq,HB.selK_eq,id,HA.setS_sel,HB.setS_sel,HC.setS_sel,Heap.setS_sel]
def Vn (r:R) (κ:S->Heap->K4->R):R :=
 @R.rec (fun _=>R) (fun e t h n=>@Ex.rec (fun _=>R) (κ t h n) (fun id=>.ok (.exit id) t h n) (.ok .ret t h n) e) (BU "") (fun w=>.fail w) (fun _ _ a b=>.both a b) r
abbrev Ok:=S->Heap->(Nat->S->R)->R->R
def Gv (body:S->Heap->K4->R) (ih:Nat->S->Heap->K4->R) (k:Nat) (t:S) (h:Heap) (n:K4):R :=
 @Nat.rec (fun _=>R) (.fail "") (fun k _=>Vn (body t h n) (ih k)) k
def Mq (body:S->Heap->K4->R) (J:Ok) (r:Nat):Nat->S->Heap->K4->R :=
 @Nat.rec (fun _=>Nat->S->Heap->K4->R) (fun k=>En body k)
  (fun _ ih k t h n=>J t h (fun j t'=>br (Nat.ble j k) (Ah (Nat.sub k j) fun k=>Gv body ih k t' h n) (En body k t h n)) (Gv body ih k t h n)) r
def KF (body:S->Heap->K4->R) (J:Ok):S->Heap->K4->R:=Mq body J 1000000 1000000000
def KD (body:S->Heap->K4->R) (J:Ok):Prop :=
 ∀ t h κ κ0,J t h κ κ0=κ0 ∨ ∃ j t',J t h κ κ0=κ j t' ∧ ∀ k n,En body (j+k) t h n=En body k t' h n
theorem Dj (body:S->Heap->K4->R):∀ (k:Nat) (t:S) (h:Heap) (n:K4),En body k t h n=Gv body (En body) k t h n
 | 0,_,_,_=>rfl
 | _+1,_,_,_=>rfl
theorem Ua {body:S->Heap->K4->R} {J:Ok} (H:KD body J):∀ (r k:Nat),Mq body J r k=En body k:=by
 intro r
 induction r with
 | zero=>exact fun _=>rfl
 | succ r ih =>
  intro k
  funext t h n
  have e0:Mq body J (r+1) k t h n=J t h (fun j t'=>br (Nat.ble j k) (Ah (Nat.sub k j) fun k=>Gv body (Mq body J r) k t' h n) (En body k t h n)) (Gv body (Mq body J r) k t h n):=rfl
  have ih:Mq body J r=En body:=funext ih
  rw [e0,ih]
  rcases H t h (fun j t'=>br (Nat.ble j k) (Ah (Nat.sub k j) fun k=>Gv body (En body) k t' h n) (En body k t h n)) (Gv body (En body) k t h n) with e | ⟨j,t',e,hj⟩
  ·rw [e,←Dj]
  ·rw [e]
   cases hb:Nat.ble j k with
   | false=>rfl
   | true =>
    have hb:=Nat.le_of_ble_eq_true hb
    show Ah (Nat.sub k j) (fun k=>Gv body (En body) k t' h n)=_
    rw [Af,←Dj,show Nat.sub k j=k - j from rfl,←hj (k - j) n,show j+(k - j)=k by omega]
theorem IC {body:S->Heap->K4->R} {J:Ok} (H:KD body J):AB body=KF body J:=(Ua H 1000000 1000000000).symm
def Dd:S->Heap->K4->R:=fun t h n=>g7 t fun z20=>g6 t fun z21=>Ap z20 z21 fun z22=>Ao z22 (Ad 2 (g5 t fun z23=>A7 z23 fun z24=>A9 2 z24 fun z25=>Aa z25 h fun z26=>g2 t fun z27=>Ag z27 z20 fun z28=>DA z28 (.int .i64 64) fun z29=>Is (.sc .i) z26 z29 (.bool true) h fun h=>.ok .nrm t h n) fun t h n=>g7 t fun z2a=>Ag z2a (.int .i64 1) fun z2b=>w7 t z2b fun t=>.ok .nrm t h n)<|.ok (.exit 1) t h n
def Gb (v:V) (κ0:R) (κ:Nat->R):R :=
 @V.rec (fun _=>R) (fun _=>Unit) (fun k r=>br (Bk k .i64) (κ r) κ0) (fun _=>κ0) (fun _ _=>κ0) (fun _ _ _ _ _ _=>κ0) (fun _ _=>κ0) (fun _ _=>κ0) (fun _=>κ0) (fun _=>κ0) (fun _ _ _=>κ0) (fun _ _=>κ0) (fun _=>κ0) () (fun _ _ _ _=>()) v
def Uk (v:V) (κ0:R) (κ:K4->Nat->R):R :=
 @V.rec (fun _=>R) (fun _=>Unit) (fun _ _=>κ0) (fun _=>κ0) (fun p o=>κ p o) (fun _ _ _ _ _ _=>κ0) (fun _ _=>κ0) (fun _ _=>κ0) (fun _=>κ0) (fun _=>κ0) (fun _ _ _=>κ0) (fun _ _=>κ0) (fun _=>κ0) () (fun _ _ _ _=>()) v
def TE (v:V) (κ0:R) (κ:K4->R):R :=
 @V.rec (fun _=>R) (fun _=>Unit) (fun _ _=>κ0) (fun _=>κ0) (fun _ _=>κ0) (fun _ _ _ _ _ _=>κ0) (fun _ _=>κ0) (fun _ _=>κ0) (fun _=>κ0) (fun p=>κ p) (fun _ _ _=>κ0) (fun _ _=>κ0) (fun _=>κ0) () (fun _ _ _ _=>()) v
def JC (v:V):Bool :=
 @V.rec (fun _=>Bool) (fun _=>Unit) (fun _ _=>false) (fun b=>b) (fun _ _=>false) (fun _ _ _ _ _ _=>false) (fun _ _=>false) (fun _ _=>false) (fun _=>false) (fun _=>false) (fun _ _ _=>false) (fun _ _=>false) (fun _=>false) () (fun _ _ _ _=>()) v
def V5 (m:Nat):List V->R->(V->R)->R :=
 @Nat.rec (fun _=>List V->R->(V->R)->R) (fun xs κ0 k=>@List.rec V (fun _=>R) κ0 (fun x _ _=>k x) xs)
  (fun _ ih xs κ0 k=>@List.rec V (fun _=>R) κ0 (fun _ ys _=>ih ys κ0 k) xs) m
def Qd (o:C3) (i:Nat) (κ0:R) (κ:V->R):R :=
 @Option.rec Ob (fun _=>R) κ0 (fun o=>@Ob.rec (fun _=>R) (fun cs _ _=>@Cs.rec (fun _=>R) (fun xs=>V5 i xs κ0 κ) (fun _ _=>κ0) cs) (fun _ _ _=>κ0) (fun _ _ _ _=>κ0) κ0 (fun _ _=>κ0) o) o
def Qc (o:C3) (κ0:R) (κ:List (V×V)->List Nat->R):R :=
 @Option.rec Ob (fun _=>R) κ0 (fun o=>@Ob.rec (fun _=>R) (fun _ _ _=>κ0) (fun es bs _=>κ es bs) (fun _ _ _ _=>κ0) κ0 (fun _ _=>κ0) o) o
def Ox (k:Nat) (es:List (V×V)):Bool :=
 @List.rec (V×V) (fun _=>Bool) false (fun e _ ih=>@Prod.rec V V (fun _=>Bool) (fun a b=>@V.rec (fun _=>Bool) (fun _=>Unit) (fun kd r=>br (Bk kd .i64) (br (Nat.beq k r) (JC b) ih) false) (fun _=>false) (fun _ _=>false) (fun _ _ _ _ _ _=>false) (fun _ _=>false) (fun _ _=>false) (fun _=>false) (fun _=>false) (fun _ _ _=>false) (fun _ _=>false) (fun _=>false) () (fun _ _ _ _=>()) a) e) es
def Pg:Ok:=fun t h κ κ0=>g7 t fun i=>g6 t fun m=>g2 t fun a=>g5 t fun x =>
 Gb i κ0 fun i0=>Gb m κ0 fun m0=>Gb a κ0 fun a0=>Uk x κ0 fun p off=>Bp p h fun o=>Qd o (Nat.add off 2) κ0 fun u=>TE u κ0 fun q=>Bp q h fun o=>Qc o κ0 fun es bs =>
  br (Nat.ble m0 4611686018427387904) (br (Nat.ble a0 4611686018427387904) (br (Nat.ble i0 m0) (br (Hi es bs) (Ah (Nat.div (Nat.add a0 i0) 64) fun k=>br (Ox k es)
   (Ah (Nat.sub m0 i0) fun j1=>Ah (Nat.sub (Nat.mul 64 (Nat.succ k)) (Nat.add a0 i0)) fun j2=>br (Nat.ble j1 j2) (Ah (Nat.add i0 j1) fun i=>w7 t (.int .i64 i) fun t=>κ j1 t) (Ah (Nat.add i0 j2) fun i=>w7 t (.int .i64 i) fun t=>κ j2 t))
   κ0) κ0) κ0) κ0) κ0
theorem Ky (v:V) (κ0:R) (κ:Nat->R):Gb v κ0 κ=κ0 ∨ ∃ r,v = .int .i64 r∧Gb v κ0 κ=κ r:=by
 cases v with
 | int k r =>
  show br (Bk k .i64) (κ r) κ0=κ0 ∨ ∃ r',V.int k r = .int .i64 r'∧br (Bk k .i64) (κ r) κ0=κ r'
  cases hb:Bk k .i64 with
  | false=>exact .inl rfl
  | true=>exact .inr ⟨r,by rw [Bd.1 hb],rfl⟩
 | _=>exact .inl rfl
theorem Si (v:V) (κ0:R) (κ:K4->Nat->R):Uk v κ0 κ=κ0 ∨ ∃ p o,v = .ptr p o∧Uk v κ0 κ=κ p o:=by
 cases v with
 | ptr p o=>exact .inr ⟨p,o,rfl,rfl⟩
 | _=>exact .inl rfl
theorem RW (v:V) (κ0:R) (κ:K4->R):TE v κ0 κ=κ0 ∨ ∃ p,v = .map p∧TE v κ0 κ=κ p:=by
 cases v with
 | map p=>exact .inr ⟨p,rfl,rfl⟩
 | _=>exact .inl rfl
theorem Oi:∀ (m:Nat) (xs:List V) (κ0:R) (κ:V->R),V5 m xs κ0 κ=κ0 ∨ ∃ v,xs[m]? = some v∧V5 m xs κ0 κ=κ v
 | 0,[],_,_=>.inl rfl
 | 0,x::_,_,_=>.inr ⟨x,rfl,rfl⟩
 | m+1,[],_,_=>.inl rfl
 | m+1,x::xs,κ0,κ=>Oi m xs κ0 κ
theorem Mc:∀ {m:Nat} {xs:List V} {v:V} {κ:V->R},xs[m]? = some v->E2 m xs κ=κ v
 | 0,[],_,_,h=>by cases h
 | 0,x::_,_,_,h=>by cases h; rfl
 | m+1,[],_,_,h=>by cases h
 | m+1,x::xs,v,κ,h=>Mc (m:=m) (xs:=xs) h
theorem RF (o:C3) (i:Nat) (κ0:R) (κ:V->R):Qd o i κ0 κ=κ0 ∨ ∃ xs sup prev v,o=some (.c (.l xs) sup prev)∧xs[i]? = some v∧Qd o i κ0 κ=κ v:=by
 cases o with
 | none=>exact .inl rfl
 | some o=>cases o with
  | c cs sup prev=>cases cs with
   | l xs =>
    rcases Oi i xs κ0 κ with e | ⟨v,h,e⟩
    ·exact .inl e
    ·exact .inr ⟨xs,sup,prev,v,rfl,h,e⟩
   | b _ _=>exact .inl rfl
  | _=>exact .inl rfl
theorem Ry (o:C3) (κ0:R) (κ:List (V×V)->List Nat->R):Qc o κ0 κ=κ0 ∨ ∃ es bs c,o=some (.m es bs c)∧Qc o κ0 κ=κ es bs:=by
 cases o with
 | none=>exact .inl rfl
 | some o=>cases o with
  | m es bs c=>exact .inr ⟨es,bs,c,rfl,rfl⟩
  | _=>exact .inl rfl
theorem Pa {v:V} (h:JC v=true):v = .bool true:=by
 cases v with
 | bool b=>rw [show b=true from h]
 | _=>cases h
theorem Qa {k:Nat}:∀ {es:List (V×V)} {κ:List (V×V)->R},Ox k es=true->Hm (.sc .i) (.int .i64 k) (.bool true) es κ=κ es
 | [],κ,h=>by cases h
 | (a,b)::es,κ,h=>by
  cases a with
  | int kd r =>
   have h:br (Bk kd .i64) (br (Nat.beq k r) (JC b) (Ox k es)) false=true:=h
   cases hk:Bk kd .i64 with
   | false=>rw [hk] at h; cases h
   | true =>
    have hkd:=Bd.1 hk
    subst hkd
    have hx:br (Nat.beq k r) (JC b) (Ox k es)=true:=h
    have e0:Hm (.sc .i) (.int .i64 k) (.bool true) ((.int .i64 r,b)::es) κ=CE (Nat.beq k r) fun q=>br q (κ ((.int .i64 k,.bool true)::es)) (Hm (.sc .i) (.int .i64 k) (.bool true) es fun l=>κ ((.int .i64 r,b)::l)):=rfl
    rw [e0,BY]
    cases hb:Nat.beq k r with
    | true =>
     rw [hb] at hx
     rw [Pa (show JC b=true from hx),Nat.eq_of_beq_eq_true hb]; rfl
    | false =>
     rw [hb] at hx
     exact Qa (κ:=fun l=>κ ((.int .i64 r,b)::l)) (show Ox k es=true from hx)
  | _=>cases h
theorem Qk {a b:Nat} {κ:V->R} (h:a<b) (hb:b≤4611686018427387904):Ap (.int .i64 a) (.int .i64 b) κ=κ (.bool true):=by
 have e0:Ap (.int .i64 a) (.int .i64 b) κ=CE (br (Nat.ble 9223372036854775808 a) (br (Nat.ble 9223372036854775808 b) (Nat.ble (Nat.succ a) b) true) (br (Nat.ble 9223372036854775808 b) false (Nat.ble (Nat.succ a) b))) fun r=>κ (.bool r):=rfl
 have h1:Nat.ble 9223372036854775808 a=false:=Bool.eq_false_iff.2 fun h=>by have:=Nat.le_of_ble_eq_true h; omega
 have h2:Nat.ble 9223372036854775808 b=false:=Bool.eq_false_iff.2 fun h=>by have:=Nat.le_of_ble_eq_true h; omega
 have h3:Nat.ble (Nat.succ a) b=true:=Nat.ble_eq_true_of_le h
 rw [e0,BY,h1,h2,h3]; rfl
theorem KU {a b:Nat} {κ:V->R} (h:a+b<18446744073709551616):Ag (.int .i64 a) (.int .i64 b) κ=κ (.int .i64 (a+b)):=by
 have e0:Ag (.int .i64 a) (.int .i64 b) κ=Ah (Nat.mod (Nat.add a b) 18446744073709551616) fun r=>κ (.int .i64 r):=rfl
 rw [e0,Af,show Nat.mod (Nat.add a b) 18446744073709551616=a+b from Nat.mod_eq_of_lt h]
theorem Vc {a:Nat} {κ:V->R} (h:a<9223372036854775808):DA (.int .i64 a) (.int .i64 64) κ=κ (.int .i64 (a / 64)):=by
 have e0:DA (.int .i64 a) (.int .i64 64) κ=br (Nat.ble (Nat.succ a) 9223372036854775808) (Ah (Nat.div a 64) fun r=>κ (.int .i64 r)) (.fail ""):=rfl
 rw [e0,show Nat.ble (Nat.succ a) 9223372036854775808=true from Nat.ble_eq_true_of_le h]
 show Ah (Nat.div a 64) (fun r=>κ (V.int .i64 r))=κ (V.int .i64 (a / 64))
 rw [Af]; rfl
theorem FR {id:Nat} {t:S} {h:Heap} {n:K4} {κ:S->Heap->K4->R}:Ad id (.ok .nrm t h n) κ=κ t h n:=rfl
theorem WG {p:K4} {off:Nat} {h:Heap} {xs:List V} {sup:Bool} {prev:Option K4} {v:V} {κ:V->R} (hp:AG p h=some (.c (.l xs) sup prev)) (hv:xs[off]? = some v):Aa (.ptr p off) h κ=κ v:=by
 show Q4 p h (fun cs _ _=>Fy cs off κ)=_
 rw [G7]
 have e:(IK p h fun cs _ _=>Fy cs off κ)=@Option.rec Ob (fun _=>R) (.fail "") (fun o=>@Ob.rec (fun _=>R) (fun cs _ _=>Fy cs off κ) (BU "") (Fb "") (.fail "") (AR "") o) (AG p h):=Dr _ _ _
 rw [e,hp]
 exact Mc hv
theorem XM {q:K4} {h:Heap} {es:List (V×V)} {bs:List Nat} {c k:Nat} {κ:Heap->R} (hq:AG q h=some (.m es bs c)) (hs:Hi es bs=true) (hh:Ox k es=true):Is (.sc .i) (.map q) (.int .i64 k) (.bool true) h κ=κ h:=by
 show RQ q h (fun es bs c k'=>Hm (.sc .i) (.int .i64 k) (.bool true) es fun es=>Vj es bs c fun bs c=>k' es bs c) κ=κ h
 rw [PJ]
 have e:∀ F,OH q h F=@Option.rec Ob (fun _=>R) (.fail "") (fun o=>@Ob.rec (fun _=>R) (BU "") F (Fb "") (.fail "") (AR "") o) (AG q h):=fun F=>Dr _ _ _
 rw [e,hq]
 show Hm (.sc .i) (.int .i64 k) (.bool true) es (fun es'=>Vj es' bs c fun bs c=>Fc q h (some (.m es' bs c)) κ)=κ h
 rw [Qa hh]
 unfold Vj
 rw [hs]
 show Fc q h (some (.m es bs c)) κ=κ h
 rw [Bx,←hq,P1]
theorem NK {d0 d1 d3 d4:V} {c2 c3 c4 c5 c6 c7:SQ} {h:Heap} {n p q:K4} {off i0 m0 a0 c:Nat} {xs:List V} {sup:Bool} {prev:Option K4} {es:List (V×V)} {bs:List Nat}
  (hp:AG p h=some (.c (.l xs) sup prev)) (hv:xs[off+2]? = some (.map q)) (hq:AG q h=some (.m es bs c)) (hs:Hi es bs=true) (hm:m0≤4611686018427387904) (ha:a0≤4611686018427387904) (hi:i0<m0) (hh:Ox ((a0+i0) / 64) es=true) :
  Dd (.mk (.mk d0 d1 (.int .i64 a0) d3) (.mk d4 (.ptr p off) (.int .i64 m0) (.int .i64 i0)) c2 c3 c4 c5 c6 c7) h n = .ok .nrm (.mk (.mk d0 d1 (.int .i64 a0) d3) (.mk d4 (.ptr p off) (.int .i64 m0) (.int .i64 (i0+1))) c2 c3 c4 c5 c6 c7) h n:=by
 have e1:∀ κ:V->R,A7 (.ptr p off) κ=κ (.ptr p off):=fun κ=>rfl
 have e2:∀ κ:V->R,A9 2 (.ptr p off) κ=κ (.ptr p (off+2)):=fun κ=>by
  show Ah (Nat.add off 2) (fun o=>κ (.ptr p o))=_
  rw [Af]
 unfold Dd
 show Ap (.int .i64 i0) (.int .i64 m0) _=_
 rw [Qk hi hm]
 show Ad 2 (A7 (.ptr p off) _) _=_
 rw [e1,e2,WG hp hv]
 show Ad 2 (Ag (.int .i64 a0) (.int .i64 i0) _) _=_
 rw [KU (by omega),Vc (by omega),XM hq hs hh,FR]
 show Ag (.int .i64 i0) (.int .i64 1) _=_
 rw [KU (by omega)]
theorem Hw {d0 d1 d3 d4:V} {c2 c3 c4 c5 c6 c7:SQ} {h:Heap} {n p q:K4} {off m0 a0 c k:Nat} {xs:List V} {sup:Bool} {prev:Option K4} {es:List (V×V)} {bs:List Nat}
  (hp:AG p h=some (.c (.l xs) sup prev)) (hv:xs[off+2]? = some (.map q)) (hq:AG q h=some (.m es bs c)) (hs:Hi es bs=true) (hm:m0≤4611686018427387904) (ha:a0≤4611686018427387904) (hh:Ox k es=true) :
  ∀ (j i0:Nat),i0+j≤m0->(∀ r,r<j->(a0+(i0+r)) / 64=k)->∀ K,En Dd (j+K) (.mk (.mk d0 d1 (.int .i64 a0) d3) (.mk d4 (.ptr p off) (.int .i64 m0) (.int .i64 i0)) c2 c3 c4 c5 c6 c7) h n
   = En Dd K (.mk (.mk d0 d1 (.int .i64 a0) d3) (.mk d4 (.ptr p off) (.int .i64 m0) (.int .i64 (i0+j))) c2 c3 c4 c5 c6 c7) h n
 | 0,i0,_,_,K=>by rw [Nat.zero_add]; rfl
 | j+1,i0,hj,hr,K=>by
  have h0:=hr 0 (by omega)
  rw [show j+1+K=(j+K)+1 by omega,Dj]
  show Vn (Dd _ h n) (En Dd (j+K))=_
  rw [NK hp hv hq hs hm ha (by omega) (by rw [show a0+i0=a0+(i0+0) by omega,h0]; exact hh)]
  show En Dd (j+K) _ h n=_
  rw [Hw hp hv hq hs hm ha hh j (i0+1) (by omega) (fun r hr'=>by have:=hr (r+1) (by omega); rw [←this]; congr 2; omega) K,show i0+1+j=i0+(j+1) by omega]
section
variable {G:R->Prop}
theorem EJ {v:V} {κ0:R} {κ:Nat->R} (g0:G κ0) (g1:∀ r,v = .int .i64 r->G (κ r)):G (Gb v κ0 κ):=by
 rcases Ky v κ0 κ with e | ⟨r,h,e⟩ <;> rw [e]
 ·exact g0
 ·exact g1 r h
theorem S6 {v:V} {κ0:R} {κ:K4->Nat->R} (g0:G κ0) (g1:∀ p o,v = .ptr p o->G (κ p o)):G (Uk v κ0 κ):=by
 rcases Si v κ0 κ with e | ⟨p,o,h,e⟩ <;> rw [e]
 ·exact g0
 ·exact g1 p o h
theorem SS {v:V} {κ0:R} {κ:K4->R} (g0:G κ0) (g1:∀ p,v = .map p->G (κ p)):G (TE v κ0 κ):=by
 rcases RW v κ0 κ with e | ⟨p,h,e⟩ <;> rw [e]
 ·exact g0
 ·exact g1 p h
theorem Rf {o:C3} {i:Nat} {κ0:R} {κ:V->R} (g0:G κ0) (g1:∀ xs sup prev v,o=some (.c (.l xs) sup prev)->xs[i]? = some v->G (κ v)):G (Qd o i κ0 κ):=by
 rcases RF o i κ0 κ with e | ⟨xs,sup,prev,v,h,h',e⟩ <;> rw [e]
 ·exact g0
 ·exact g1 xs sup prev v h h'
theorem QV {o:C3} {κ0:R} {κ:List (V×V)->List Nat->R} (g0:G κ0) (g1:∀ es bs c,o=some (.m es bs c)->G (κ es bs)):G (Qc o κ0 κ):=by
 rcases Ry o κ0 κ with e | ⟨es,bs,c,h,e⟩ <;> rw [e]
 ·exact g0
 ·exact g1 es bs c h
theorem D1 {b:Bool} {x y:R} (g0:G y) (g1:b=true->G x):G (br b x y):=by
 cases b with
 | false=>exact g0
 | true=>exact g1 rfl
theorem GI {p:K4} {h:Heap} {κ:C3->R} (g:G (κ (AG p h))):G (Bp p h κ):=by rw [Bz]; exact g
theorem Ha {m:Nat} {κ:Nat->R} (g:G (κ m)):G (Ah m κ):=by rw [Af]; exact g
end
theorem PA:KD Dd Pg:=by
 intro t h κ κ0
 cases t with
 | mk c0 c1 c2 c3 c4 c5 c6 c7 =>
  cases c0 with
  | mk d0 d1 a d3 =>
   cases c1 with
   | mk d4 x m i =>
    obtain ⟨T,hT⟩:∃ T:S,T = .mk (.mk d0 d1 a d3) (.mk d4 x m i) c2 c3 c4 c5 c6 c7:=⟨_,rfl⟩
    obtain ⟨G,hG⟩:∃ G:R->Prop,∀ r,G r ↔ (r=κ0 ∨ ∃ j t',r=κ j t' ∧ ∀ k n,En Dd (j+k) T h n=En Dd k t' h n):=⟨_,fun r=>Iff.rfl⟩
    have g0:G κ0:=(hG _).2 (.inl rfl)
    rw [←hT]
    refine (hG _).1 ?_
    rw [hT]
    refine EJ (G:=G) g0 fun i0 hi=>EJ (G:=G) g0 fun m0 hm=>EJ (G:=G) g0 fun a0 ha=>S6 (G:=G) g0 fun p off hx=>GI (G:=G) (Rf (G:=G) g0 fun xs sup prev u hp hv=>SS (G:=G) g0 fun q hu=>?_)
    subst hi hm ha hx hu
    refine GI (G:=G) (QV (G:=G) g0 fun es bs c hq=>D1 (G:=G) g0 fun b1=>D1 (G:=G) g0 fun b2=>D1 (G:=G) g0 fun b3=>D1 (G:=G) g0 fun b4=>Ha (G:=G) (D1 (G:=G) g0 fun b5=>Ha (G:=G) (Ha (G:=G) ?_)))
    have b1:=Nat.le_of_ble_eq_true b1
    have b2:=Nat.le_of_ble_eq_true b2
    have b3:=Nat.le_of_ble_eq_true b3
    have e1:Nat.sub m0 i0=m0 - i0:=rfl
    have e2:Nat.sub (Nat.mul 64 (Nat.succ (Nat.div (Nat.add a0 i0) 64))) (Nat.add a0 i0)=64*((a0+i0) / 64+1) - (a0+i0):=rfl
    have e3:Nat.div (Nat.add a0 i0) 64=(a0+i0) / 64:=rfl
    rw [e1,e2]
    rw [e3] at b5
    have key:∀ j,j≤m0 - i0->j≤64*((a0+i0) / 64+1) - (a0+i0)->∀ K n,En Dd (j+K) (.mk (.mk d0 d1 (.int .i64 a0) d3) (.mk d4 (.ptr p off) (.int .i64 m0) (.int .i64 i0)) c2 c3 c4 c5 c6 c7) h n
      = En Dd K (.mk (.mk d0 d1 (.int .i64 a0) d3) (.mk d4 (.ptr p off) (.int .i64 m0) (.int .i64 (i0+j))) c2 c3 c4 c5 c6 c7) h n:=fun j hj1 hj2 K n =>
     Hw hp hv hq b4 b1 b2 b5 j i0 (by omega) (fun r hr=>by omega) K
    cases hb:Nat.ble (m0 - i0) (64*((a0+i0) / 64+1) - (a0+i0)) with
    | true =>
     rw [show ∀ x y:R,br true x y=x from fun _ _=>rfl,Af]
     refine (hG _).2 (.inr ⟨m0 - i0,_,rfl,fun K n=>?_⟩)
     rw [hT]
     exact key _ (Nat.le_refl _) (Nat.le_of_ble_eq_true hb) K n
    | false =>
     rw [show ∀ x y:R,br false x y=y from fun _ _=>rfl,Af]
     refine (hG _).2 (.inr ⟨64*((a0+i0) / 64+1) - (a0+i0),_,rfl,fun K n=>?_⟩)
     rw [hT]
     refine key _ ?_ (Nat.le_refl _) K n
     rcases Nat.lt_or_ge (64*((a0+i0) / 64+1) - (a0+i0)) (m0 - i0) with h' | h'
     ·omega
     ·rw [Nat.ble_eq_true_of_le h'] at hb; cases hb
theorem S1:AB Dd=KF Dd Pg:=IC PA
def IF:S->Heap->K4->R:=fun t h n=>g7 t fun ze=>Ap ze (.int .i64 8) fun zf=>Ao zf (Ad 3 (g3 t fun zg=>Cu zg (.int .u64 1) fun zh=>E1 zg (.int .u32 1) fun zi=>My zi fun zj=>E1 (.int .u32 2197175160) zj fun zk=>BO zh zk fun zl=>w3 t zl fun t=>.ok .nrm t h n) fun t h n=>g7 t fun zm=>Ag zm (.int .i64 1) fun zn=>w7 t zn fun t=>.ok .nrm t h n)<|.ok (.exit 2) t h n
def Wu (v:V) (κ0:R) (κ:Nat->R):R :=
 @V.rec (fun _=>R) (fun _=>Unit) (fun k r=>br (Bk k .u32) (κ r) κ0) (fun _=>κ0) (fun _ _=>κ0) (fun _ _ _ _ _ _=>κ0) (fun _ _=>κ0) (fun _ _=>κ0) (fun _=>κ0) (fun _=>κ0) (fun _ _ _=>κ0) (fun _ _=>κ0) (fun _=>κ0) () (fun _ _ _ _=>()) v
def HE (x:Nat):Nat:=Nat.xor (Nat.shiftRight x 1) (Nat.land 2197175160 (Nat.mod (Nat.add 0 (Nat.sub 4294967296 (Nat.land x 1))) 4294967296))
def Fw (j:Nat):Nat->Nat:=@Nat.rec (fun _=>Nat->Nat) (fun x=>x) (fun _ ih x=>ih (HE x)) j
theorem Sw {G:R->Prop} {v:V} {κ0:R} {κ:Nat->R} (g0:G κ0) (g1:∀ r,v = .int .u32 r->G (κ r)):G (Wu v κ0 κ):=by
 cases v with
 | int k r =>
  show G (br (Bk k .u32) (κ r) κ0)
  cases hb:Bk k .u32 with
  | false=>exact g0
  | true=>exact g1 r (by rw [Bd.1 hb])
 | _=>exact g0
theorem Qo {x:Nat} (h:x<4294967296):HE x<4294967296:=by
 have h1:x >>> 1<2 ^ 32:=by rw [Nat.shiftRight_eq_div_pow]; omega
 have h2:2197175160 &&& ((0+(4294967296 - (x &&& 1))) % 4294967296)<2 ^ 32:=Nat.lt_of_le_of_lt Nat.and_le_left (by decide)
 exact Nat.xor_lt_two_pow h1 h2
theorem QK {d0 d1 d2 d4 d5 d6:V} {c2 c3 c4 c5 c6 c7:SQ} {h:Heap} {n:K4} {i x:Nat} (hi:i<8) (hx:x<4294967296) :
  IF (.mk (.mk d0 d1 d2 (.int .u32 x)) (.mk d4 d5 d6 (.int .i64 i)) c2 c3 c4 c5 c6 c7) h n = .ok .nrm (.mk (.mk d0 d1 d2 (.int .u32 (HE x))) (.mk d4 d5 d6 (.int .i64 (i+1))) c2 c3 c4 c5 c6 c7) h n:=by
 have e1:∀ κ:V->R,Cu (.int .u32 x) (.int .u64 1) κ=κ (.int .u32 (Nat.shiftRight x 1)):=fun κ=>by
  have e0:Cu (.int .u32 x) (.int .u64 1) κ=br (Nat.ble (Nat.succ x) 4294967296) (Ah (Nat.shiftRight x 1) fun r=>κ (.int .u32 r)) (.fail ""):=rfl
  rw [e0,show Nat.ble (Nat.succ x) 4294967296=true from Nat.ble_eq_true_of_le hx]
  show Ah (Nat.shiftRight x 1) (fun r=>κ (V.int .u32 r))=_
  rw [Af]
 have e2:∀ (a b:Nat) (κ:V->R),E1 (.int .u32 a) (.int .u32 b) κ=κ (.int .u32 (Nat.land a b)):=fun a b κ=>by
  have e0:E1 (.int .u32 a) (.int .u32 b) κ=Ah (Nat.land a b) fun r=>κ (.int .u32 r):=rfl
  rw [e0,Af]
 have e3:∀ (a b:Nat) (κ:V->R),BO (.int .u32 a) (.int .u32 b) κ=κ (.int .u32 (Nat.xor a b)):=fun a b κ=>by
  have e0:BO (.int .u32 a) (.int .u32 b) κ=Ah (Nat.xor a b) fun r=>κ (.int .u32 r):=rfl
  rw [e0,Af]
 have e4:∀ (a:Nat) (κ:V->R),My (.int .u32 a) κ=κ (.int .u32 (Nat.mod (Nat.add 0 (Nat.sub 4294967296 a)) 4294967296)):=fun a κ=>by
  have e0:My (.int .u32 a) κ=Ah (Nat.mod (Nat.add 0 (Nat.sub 4294967296 a)) 4294967296) fun r=>κ (.int .u32 r):=rfl
  rw [e0,Af]
 unfold IF
 show Ap (.int .i64 i) (.int .i64 8) _=_
 rw [Qk hi (by omega)]
 show Ad 3 (Cu (.int .u32 x) (.int .u64 1) _) _=_
 rw [e1,e2,e4,e2,e3,FR]
 show Ag (.int .i64 i) (.int .i64 1) _=_
 rw [KU (by omega)]; rfl
theorem KE {d0 d1 d2 d4 d5 d6:V} {c2 c3 c4 c5 c6 c7:SQ} {h:Heap} {n:K4} :
  ∀ (j i x:Nat),i+j≤8->x<4294967296->∀ K,En IF (j+K) (.mk (.mk d0 d1 d2 (.int .u32 x)) (.mk d4 d5 d6 (.int .i64 i)) c2 c3 c4 c5 c6 c7) h n
   = En IF K (.mk (.mk d0 d1 d2 (.int .u32 (Fw j x))) (.mk d4 d5 d6 (.int .i64 (i+j))) c2 c3 c4 c5 c6 c7) h n
 | 0,i,x,_,_,K=>by rw [Nat.zero_add]; rfl
 | j+1,i,x,hj,hx,K=>by
  rw [show j+1+K=(j+K)+1 by omega,Dj]
  show Vn (IF _ h n) (En IF (j+K))=_
  rw [QK (by omega) hx]
  show En IF (j+K) _ h n=_
  rw [KE j (i+1) (HE x) (by omega) (Qo hx) K,show i+1+j=i+(j+1) by omega]; rfl
end Go.Ev

namespace Go.Ev
set_option linter.unusedVariables false
theorem Jx (x:Nat):HE x=(x >>> 1) ^^^ (if x % 2=1 then 2197175160 else 0):=by
 show (x >>> 1) ^^^ (2197175160 &&& ((0+(4294967296 - (x &&& 1))) % 4294967296))=_
 rw [Nat.and_one_is_mod]
 rcases Nat.mod_two_eq_zero_or_one x with h | h <;> rw [h] <;> rfl
theorem ST (a b:Nat):HE (a ^^^ b)=HE a ^^^ HE b:=by
 rw [Jx,Jx,Jx,Nat.shiftRight_xor_distrib]
 have h:(a ^^^ b) % 2=(a+b) % 2:=by
  have e:=Nat.xor_mod_two_pow (a:=a) (b:=b) (n:=1)
  rw [Nat.pow_one] at e
  rw [e]
  rcases Nat.mod_two_eq_zero_or_one a with ha | ha <;> rcases Nat.mod_two_eq_zero_or_one b with hb | hb <;> rw [ha,hb,Nat.add_mod,ha,hb] <;> rfl
 rcases Nat.mod_two_eq_zero_or_one a with ha | ha <;> rcases Nat.mod_two_eq_zero_or_one b with hb | hb
 ·have:(a ^^^ b) % 2=0:=by omega
  simp [ha,hb,this]
 ·have:(a ^^^ b) % 2=1:=by omega
  simp [ha,hb,this,Nat.xor_assoc]
 ·have:(a ^^^ b) % 2=1:=by omega
  simp only [ha,hb,this,if_true,if_false,Nat.xor_zero,reduceIte,Nat.zero_ne_one]
  simp only [Nat.xor_assoc,Nat.xor_comm (b >>> 1)]
 ·have:(a ^^^ b) % 2=0:=by omega
  simp only [ha,hb,this,reduceIte,Nat.xor_zero,Nat.zero_ne_one]
  generalize a >>> 1=p
  generalize b >>> 1=q
  apply Nat.eq_of_testBit_eq
  intro i
  simp only [Nat.testBit_xor]
  cases p.testBit i <;> cases q.testBit i <;> cases (2197175160:Nat).testBit i <;> rfl
theorem Oc:∀ (j a b:Nat),Fw j (a ^^^ b)=Fw j a ^^^ Fw j b
 | 0,_,_=>rfl
 | j+1,a,b=>by
  show Fw j (HE (a ^^^ b))=Fw j (HE a) ^^^ Fw j (HE b)
  rw [ST,Oc]
theorem R1 (m:Nat):HE (2*m)=m:=by
 rw [Jx,Nat.mul_mod_right,Nat.shiftRight_eq_div_pow]; simp
theorem NB:∀ (j q:Nat),Fw j (2 ^ j*q)=q
 | 0,q=>by show 2 ^ 0*q=q; omega
 | j+1,q=>by
  show Fw j (HE (2 ^ (j+1)*q))=q
  rw [show 2 ^ (j+1)*q=2*(2 ^ j*q) by rw [Nat.pow_succ,Nat.mul_comm (2 ^ j) 2,Nat.mul_assoc],R1,NB]
theorem R6 (y:Nat):y=(2 ^ 8*(y / 2 ^ 8)) ^^^ (y % 2 ^ 8):=by
 apply Nat.eq_of_testBit_eq
 intro i
 rw [Nat.testBit_xor,Nat.testBit_two_pow_mul,Nat.testBit_mod_two_pow,Nat.testBit_div_two_pow]
 by_cases h:8≤i
 ·have h2:¬ i<8:=by omega
  simp [h,h2,show i - 8+8=i by omega]
 ·have h2:i<8:=by omega
  simp [h,h2]
theorem QC:∀ (j:Nat) {x:Nat},x<4294967296->Fw j x<4294967296
 | 0,_,h=>h
 | j+1,x,h=>by show Fw j (HE x)<_; exact QC j (Qo h)
def MO:Nat:=739192992287711479272199505450802174180944935565270117958735211195864883404034321072575759094604862722103638970562105654534965976895685875045062592379112792078985738769595739548904202597956689934399229134939183684703714920378025961387270778473281346239181994539903784708069763525514523240966634758967547723819948093640238732618841930738396489733218495472825776362786651876001733504161834172818020394346043168775838788836904094212573134772649703407841545716218812283123984658267516726659948613643534969466376019494666614718815429190684246327365394372519258139400530706807260825564948901732507176286259752944669944548605679086391305931301222988237278526118373278492307487107474296386730408839343753629123128283572704772544098648517013212824233746728729854273945055038163572363387039908578405517982904131040319505009390255243990278860523606265815895619710957563380635837315129012976704357344131429050367435482781212454439427280336740616644805562249867251859340971513883299426874200217165290071196282711253218164865174241416073419876796213293517950780480733835793334181716730049909888366296838117288969681076010175182486226749959458237712061794030512295298309798453151350168298336411933176330063767835252143862258384197256040876755067274410026075604127347481305827849130625987059819492849891529288490451730106428376839488665315100810248841715739596040091270955624355315201462555945279029196416991040143682248153287045556144390819759753283690710943841433520922330785319143598322120010359670046292912296136999474302691355293324886616216537430761212949134977443278613456733727644009057088654822989287437792990360527449046917776586498554113667460252688333953726837853077886002223252717428049737186417130969568838070377296274375688487884511950345697105344492065413654582468965021167618282726469469929715764674333614324035309623813703284835732759643444816186743644084768553800456975483023122915759126937036001171360984116527371042249105866775992680472790331893395027602898497596949565462107432141452181910127216554936352241472142685417685618824675396402282974391037184848625305334079832924861339728594832024687877422901193159812755254516361032103358958860399075665489958680801135040793967932263797765198140728704255468134266160630916650637156666977854355604551105352627939572551570066195951258251545213658746024110892771407706843609824354401912642345941057507434795836161327506684973593222243082074173577446865175872619707633030268690896528048779238513612740446475572226293760
abbrev N9 (y:Nat):Nat:=Nat.xor (Nat.shiftRight y 8) (Nat.land (Nat.shiftRight MO (Nat.mul 32 (Nat.land y 255))) 4294967295)
theorem Ty:Kf (fun b=>Nat.beq (Fw 8 b) (Nat.land (Nat.shiftRight MO (Nat.mul 32 b)) 4294967295)) 256=true:=by kernel_rfl
theorem PQ (y:Nat):N9 y=Fw 8 y:=by
 have h255:Nat.land y 255=y % 2 ^ 8:=Nat.and_two_pow_sub_one_eq_mod y 8
 have hb:y % 2 ^ 8<256:=Nat.mod_lt _ (by decide)
 have key:Fw 8 (y % 2 ^ 8)=Nat.land (Nat.shiftRight MO (Nat.mul 32 (y % 2 ^ 8))) 4294967295:=Nat.eq_of_beq_eq_true (Ee Ty _ hb)
 have e:Fw 8 y=Fw 8 (2 ^ 8*(y / 2 ^ 8)) ^^^ Fw 8 (y % 2 ^ 8):=by rw [←Oc,←R6]
 rw [e,NB,key]
 show Nat.xor (Nat.shiftRight y 8) (Nat.land (Nat.shiftRight MO (Nat.mul 32 (Nat.land y 255))) 4294967295)=_
 rw [h255]
 show (y >>> 8) ^^^ _=_
 rw [Nat.shiftRight_eq_div_pow]
theorem Xv {a b:Nat} {κ:V->R} (h:b≤a) (ha:a≤4611686018427387904):Ap (.int .i64 a) (.int .i64 b) κ=κ (.bool false):=by
 have e0:Ap (.int .i64 a) (.int .i64 b) κ=CE (br (Nat.ble 9223372036854775808 a) (br (Nat.ble 9223372036854775808 b) (Nat.ble (Nat.succ a) b) true) (br (Nat.ble 9223372036854775808 b) false (Nat.ble (Nat.succ a) b))) fun r=>κ (.bool r):=rfl
 have h1:Nat.ble 9223372036854775808 a=false:=Bool.eq_false_iff.2 fun h=>by have:=Nat.le_of_ble_eq_true h; omega
 have h2:Nat.ble 9223372036854775808 b=false:=Bool.eq_false_iff.2 fun h=>by have:=Nat.le_of_ble_eq_true h; omega
 have h3:Nat.ble (Nat.succ a) b=false:=Bool.eq_false_iff.2 fun h=>by have:=Nat.le_of_ble_eq_true h; omega
 rw [e0,BY,h1,h2,h3]; rfl
theorem SD {p:K4} {off len cap esz i:Nat} {ex:Bool} {κ:V->R} (h:i<len) (hi:i<9223372036854775808):Ar esz (.sl p off len cap ex esz) (.int .i64 i) κ=κ (.ptr p (off+i*esz)):=by
 have e0:Ar esz (.sl p off len cap ex esz) (.int .i64 i) κ=br (Nat.ble (Nat.succ i) 9223372036854775808) (br (Nat.beq esz esz) (br (Nat.ble (Nat.succ i) len) (Ah (Nat.add off (Nat.mul i esz)) fun o=>κ (.ptr p o)) (.fail "")) (.fail "")) (.fail ""):=rfl
 rw [e0,show Nat.ble (Nat.succ i) 9223372036854775808=true from Nat.ble_eq_true_of_le hi,show Nat.ble (Nat.succ i) len=true from Nat.ble_eq_true_of_le h,show Nat.beq esz esz=true from Nat.beq_refl _]
 show Ah (Nat.add off (Nat.mul i esz)) (fun o=>κ (.ptr p o))=_
 rw [Af]; rfl
theorem SJ {p:K4} {off m c:Nat} {h:Heap} {sup:Bool} {prev:Option K4} {κ:V->R} (hp:AG p h=some (.c (.b m c) sup prev)) (hv:off<m):Aa (.ptr p off) h κ=κ (.int .u8 (lo (sh c off) 1)):=by
 show Q4 p h (fun cs _ _=>Fy cs off κ)=_
 rw [G7]
 have e:(IK p h fun cs _ _=>Fy cs off κ)=@Option.rec Ob (fun _=>R) (.fail "") (fun o=>@Ob.rec (fun _=>R) (fun cs _ _=>Fy cs off κ) (BU "") (Fb "") (.fail "") (AR "") o) (AG p h):=Dr _ _ _
 rw [e,hp]
 show br (Nat.ble (Nat.succ off) m) (Ah (lo (sh c off) 1) fun r=>κ (.int .u8 r)) (.fail "")=_
 rw [show Nat.ble (Nat.succ off) m=true from Nat.ble_eq_true_of_le hv]
 show Ah (lo (sh c off) 1) (fun r=>κ (V.int .u8 r))=_
 rw [Af]
theorem Qr (c:Nat):lo c 1<256:=by rw [Dw]; exact Nat.mod_lt _ (by decide)
theorem Qy (c a:Nat):sh (sh c a) 1=sh c (a+1):=by
 rw [ED,ED,ED,Nat.div_div_eq_div_mul,←Nat.pow_add]
def YA (v:V) (κ0:R) (κ:K4->Nat->Nat->Nat->R):R :=
 @V.rec (fun _=>R) (fun _=>Unit) (fun _ _=>κ0) (fun _=>κ0) (fun _ _=>κ0) (fun p off len _ _ esz=>κ p off len esz) (fun _ _=>κ0) (fun _ _=>κ0) (fun _=>κ0) (fun _=>κ0) (fun _ _ _=>κ0) (fun _ _=>κ0) (fun _=>κ0) () (fun _ _ _ _=>()) v
theorem Q1 {G:R->Prop} {v:V} {κ0:R} {κ:K4->Nat->Nat->Nat->R} (g0:G κ0) (g1:∀ p off len cap ex esz,v = .sl p off len cap ex esz->G (κ p off len esz)):G (YA v κ0 κ):=by
 cases v with
 | sl p off len cap ex esz=>exact g1 p off len cap ex esz rfl
 | _=>exact g0
def V7 (o:C3) (κ0:R) (κ:Nat->Nat->R):R :=
 @Option.rec Ob (fun _=>R) κ0 (fun o=>@Ob.rec (fun _=>R) (fun cs _ _=>@Cs.rec (fun _=>R) (fun _=>κ0) κ cs) (fun _ _ _=>κ0) (fun _ _ _ _=>κ0) κ0 (fun _ _=>κ0) o) o
theorem Ov {G:R->Prop} {o:C3} {κ0:R} {κ:Nat->Nat->R} (g0:G κ0) (g1:∀ n c sup prev,o=some (.c (.b n c) sup prev)->G (κ n c)):G (V7 o κ0 κ):=by
 cases o with
 | none=>exact g0
 | some o=>cases o with
  | c cs sup prev=>cases cs with
   | l xs=>exact g0
   | b n c=>exact g1 n c sup prev rfl
  | _=>exact g0
def Xj (v:V) (κ0:R) (κ:Nat->R):R :=
 @V.rec (fun _=>R) (fun _=>Unit) (fun k r=>br (Bk k .u64) (κ r) κ0) (fun _=>κ0) (fun _ _=>κ0) (fun _ _ _ _ _ _=>κ0) (fun _ _=>κ0) (fun _ _=>κ0) (fun _=>κ0) (fun _=>κ0) (fun _ _ _=>κ0) (fun _ _=>κ0) (fun _=>κ0) () (fun _ _ _ _=>()) v
theorem Tt {G:R->Prop} {v:V} {κ0:R} {κ:Nat->R} (g0:G κ0) (g1:∀ r,v = .int .u64 r->G (κ r)):G (Xj v κ0 κ):=by
 cases v with
 | int k r =>
  show G (br (Bk k .u64) (κ r) κ0)
  cases hb:Bk k .u64 with
  | false=>exact g0
  | true=>exact g1 r (by rw [Bd.1 hb])
 | _=>exact g0
def EH:S->Heap->K4->R:=fun t h n=>g6 t fun z5=>g5 t fun z6=>Ap z5 z6 fun z7=>Ao z7 (Ad 1 (g4 t fun z8=>Ar 1 z8 z5 fun z9=>Aa z9 h fun za=>g3 t fun zb=>AW .u32 za fun zc=>BO zb zc fun zd=>Ad 2 (w3 t zd fun t=>w7 t (.int .i64 0) fun t=>AB IF t h n) fun t h n=>.ok .nrm t h n) fun t h n=>g6 t fun zo=>Ag zo (.int .i64 1) fun zp=>w6 t zp fun t=>.ok .nrm t h n)<|.ok (.exit 0) t h n
def N3 (j:Nat):Nat->Nat->Nat:=@Nat.rec (fun _=>Nat->Nat->Nat) (fun _ x=>x) (fun _ ih d x=>ih (sh d 1) (N9 (Nat.xor x (lo d 1)))) j
def VJ (j:Nat):Nat->Nat->(Nat->R)->R:=@Nat.rec (fun _=>Nat->Nat->(Nat->R)->R) (fun _ x κ=>κ x) (fun _ ih d x κ=>Ah (Nat.xor x (lo d 1)) fun y=>Ah (N9 y) fun x=>Ah (sh d 1) fun d=>ih d x κ) j
theorem PH:∀ (j d x:Nat) (κ:Nat->R),VJ j d x κ=κ (N3 j d x)
 | 0,_,_,_=>rfl
 | j+1,d,x,κ=>by
  show Ah (Nat.xor x (lo d 1)) (fun y=>Ah (N9 y) fun x=>Ah (sh d 1) fun d=>VJ j d x κ)=κ (N3 j (sh d 1) (N9 (Nat.xor x (lo d 1))))
  rw [Af,Af,Af,PH]
theorem UJ (d j:Nat):lo (lo d (j+1)) 1=lo d 1:=by
 rw [Dw,Dw,Dw,Nat.pow_succ,Nat.mod_mul_left_mod]
theorem UG (d j:Nat):sh (lo d (j+1)) 1=lo (sh d 1) j:=by
 rw [Dw,Dw,ED,ED,Nat.pow_succ,Nat.pow_one,Nat.mul_comm,Nat.mod_mul_right_div_self]
theorem PR:∀ (j d x:Nat),N3 j (lo d j) x=N3 j d x
 | 0,_,_=>rfl
 | j+1,d,x=>by
  show N3 j (sh (lo d (j+1)) 1) (N9 (Nat.xor x (lo (lo d (j+1)) 1)))=N3 j (sh d 1) (N9 (Nat.xor x (lo d 1)))
  rw [UJ,UG,PR]
def Tj:Ok:=fun t h κ κ0=>g6 t fun i=>g5 t fun m=>g4 t fun s=>g3 t fun x=>Gb i κ0 fun i0=>Gb m κ0 fun m0=>YA s κ0 fun p off len esz=>Wu x κ0 fun x0=>Bp p h fun o=>V7 o κ0 fun nb c =>
 br (Nat.ble (Nat.succ i0) m0) (br (Nat.ble m0 len) (br (Nat.ble (Nat.add off len) nb) (br (Nat.beq esz 1) (br (Nat.ble (Nat.succ x0) 4294967296) (br (Nat.ble m0 4611686018427387904)
  (Ah (Nat.sub m0 i0) fun j=>Ah (lo (sh c (Nat.add off i0)) j) fun d=>VJ j d x0 fun x=>w3 t (.int .u32 x) fun t=>w6 t (.int .i64 m0) fun t=>w7 t (.int .i64 8) fun t=>κ j t) κ0) κ0) κ0) κ0) κ0) κ0
theorem SG (body:S->Heap->K4->R) (k:Nat) (t:S) (h:Heap) (n:K4):En body (k+1) t h n=Vn (body t h n) (En body k):=Dj body (k+1) t h n
theorem NP {id:Nat} {t:S} {h:Heap} {n:K4} {κ:S->Heap->K4->R}:Ad id (.ok (.exit id) t h n) κ=κ t h n:=by
 show br (Nat.beq id id) (κ t h n) (.ok (.exit id) t h n)=κ t h n
 rw [Nat.beq_refl]; rfl
theorem QS {d0 d1 d2 d4 d5 d6:V} {c2 c3 c4 c5 c6 c7:SQ} {h:Heap} {n:K4} {x:Nat} (hx:x<4294967296) :
  AB IF (.mk (.mk d0 d1 d2 (.int .u32 x)) (.mk d4 d5 d6 (.int .i64 0)) c2 c3 c4 c5 c6 c7) h n = .ok (.exit 2) (.mk (.mk d0 d1 d2 (.int .u32 (Fw 8 x))) (.mk d4 d5 d6 (.int .i64 8)) c2 c3 c4 c5 c6 c7) h n:=by
 show En IF 1000000000 _ _ _=_
 rw [show (1000000000:Nat)=8+(999999991+1) from rfl,KE 8 0 x (by omega) hx,SG]
 have e:IF (.mk (.mk d0 d1 d2 (.int .u32 (Fw 8 x))) (.mk d4 d5 d6 (.int .i64 (0+8))) c2 c3 c4 c5 c6 c7) h n = .ok (.exit 2) (.mk (.mk d0 d1 d2 (.int .u32 (Fw 8 x))) (.mk d4 d5 d6 (.int .i64 (0+8))) c2 c3 c4 c5 c6 c7) h n:=by
  unfold IF
  show Ap (.int .i64 (0+8)) (.int .i64 8) _=_
  rw [Xv (by omega) (by omega)]; rfl
 rw [e]; rfl
theorem Ss {k:IntKind} {r:Nat} {κ:V->R} (h:r<256) (hk:256≤Mk k):AW k (.int .u8 r) κ=κ (.int k r):=by
 have e0:AW k (.int .u8 r) κ=br (Nat.ble (Nat.succ r) 256) (Ah (Nat.mod r (Mk k)) fun r=>κ (.int k r)) (br (Nat.ble (Mk k) 256) (Ah (Nat.mod r (Mk k)) fun r=>κ (.int k r)) (Ah (Nat.sub (Mk k) (Nat.sub 256 r)) fun r=>κ (.int k r))):=rfl
 rw [e0,show Nat.ble (Nat.succ r) 256=true from Nat.ble_eq_true_of_le h]
 show Ah (Nat.mod r (Mk k)) (fun r=>κ (V.int k r))=_
 rw [Af,show Nat.mod r (Mk k)=r from Nat.mod_eq_of_lt (by omega)]
theorem JV {d0 d1 d2 d7:V} {c2 c3 c4 c5 c6 c7:SQ} {h:Heap} {n p:K4} {off len cap m i x nb c:Nat} {ex sup:Bool} {prev:Option K4}
  (hp:AG p h=some (.c (.b nb c) sup prev)) (hi:i<m) (hm:m≤len) (hl:off+len≤nb) (hb:m≤4611686018427387904) (hx:x<4294967296) :
  EH (.mk (.mk d0 d1 d2 (.int .u32 x)) (.mk (.sl p off len cap ex 1) (.int .i64 m) (.int .i64 i) d7) c2 c3 c4 c5 c6 c7) h n
   = .ok .nrm (.mk (.mk d0 d1 d2 (.int .u32 (N9 (Nat.xor x (lo (sh c (off+i)) 1))))) (.mk (.sl p off len cap ex 1) (.int .i64 m) (.int .i64 (i+1)) (.int .i64 8)) c2 c3 c4 c5 c6 c7) h n:=by
 unfold EH
 show Ap (.int .i64 i) (.int .i64 m) _=_
 rw [Qk hi hb]
 show Ad 1 (Ar 1 (.sl p off len cap ex 1) (.int .i64 i) _) _=_
 rw [SD (by omega) (by omega),SJ hp (by omega)]
 show Ad 1 (AW .u32 (.int .u8 (lo (sh c (off+i*1)) 1)) _) _=_
 rw [Ss (Qr _) (by decide),Nat.mul_one]
 have e3:∀ (a b:Nat) (κ:V->R),BO (.int .u32 a) (.int .u32 b) κ=κ (.int .u32 (Nat.xor a b)):=fun a b κ=>by
  have e0:BO (.int .u32 a) (.int .u32 b) κ=Ah (Nat.xor a b) fun r=>κ (.int .u32 r):=rfl
  rw [e0,Af]
 rw [e3]
 have hx2:Nat.xor x (lo (sh c (off+i)) 1)<4294967296:=Nat.xor_lt_two_pow (n:=32) hx (Nat.lt_trans (Qr _) (by decide))
 rw [PQ]
 generalize Nat.xor x (lo (sh c (off+i)) 1)=y at hx2
 show Ad 1 (Ad 2 (AB IF (.mk (.mk d0 d1 d2 (.int .u32 y)) (.mk (.sl p off len cap ex 1) (.int .i64 m) (.int .i64 i) (.int .i64 0)) c2 c3 c4 c5 c6 c7) h n) _) _=_
 rw [QS hx2,NP,FR]
 show Ag (.int .i64 i) (.int .i64 1) _=_
 rw [KU (by omega)]
theorem Jh {d0 d1 d2:V} {c2 c3 c4 c5 c6 c7:SQ} {h:Heap} {n p:K4} {off len cap m nb c:Nat} {ex sup:Bool} {prev:Option K4}
  (hp:AG p h=some (.c (.b nb c) sup prev)) (hm:m≤len) (hl:off+len≤nb) (hb:m≤4611686018427387904) :
  ∀ (j i x:Nat) (d7:V),i+(j+1)≤m->x<4294967296->∀ K,En EH (j+1+K) (.mk (.mk d0 d1 d2 (.int .u32 x)) (.mk (.sl p off len cap ex 1) (.int .i64 m) (.int .i64 i) d7) c2 c3 c4 c5 c6 c7) h n
   = En EH K (.mk (.mk d0 d1 d2 (.int .u32 (N3 (j+1) (sh c (off+i)) x))) (.mk (.sl p off len cap ex 1) (.int .i64 m) (.int .i64 (i+(j+1))) (.int .i64 8)) c2 c3 c4 c5 c6 c7) h n
 | 0,i,x,d7,hj,hx,K=>by
  rw [show 0+1+K=K+1 by omega,Dj]
  show Vn (EH _ h n) (En EH K)=_
  rw [JV hp (by omega) hm hl hb hx]; rfl
 | j+1,i,x,d7,hj,hx,K=>by
  rw [show j+1+1+K=(j+1+K)+1 by omega,Dj]
  show Vn (EH _ h n) (En EH (j+1+K))=_
  rw [JV hp (by omega) hm hl hb hx]
  show En EH (j+1+K) _ h n=_
  rw [Jh hp hm hl hb j (i+1) _ _ (by omega) (by rw [PQ]; exact QC 8 (Nat.xor_lt_two_pow (n:=32) hx (Nat.lt_trans (Qr _) (by decide)))) K]
  have e:N3 (j+1+1) (sh c (off+i)) x=N3 (j+1) (sh (sh c (off+i)) 1) (N9 (Nat.xor x (lo (sh c (off+i)) 1))):=rfl
  rw [e,Qy,show off+(i+1)=off+i+1 by omega,show i+1+(j+1)=i+(j+1+1) by omega]
theorem QW:KD EH Tj:=by
 intro t h κ κ0
 cases t with
 | mk c0 c1 c2 c3 c4 c5 c6 c7 =>
  cases c0 with
  | mk d0 d1 d2 x =>
   cases c1 with
   | mk s m i d7 =>
    obtain ⟨T,hT⟩:∃ T:S,T = .mk (.mk d0 d1 d2 x) (.mk s m i d7) c2 c3 c4 c5 c6 c7:=⟨_,rfl⟩
    obtain ⟨G,hG⟩:∃ G:R->Prop,∀ r,G r ↔ (r=κ0 ∨ ∃ j t',r=κ j t' ∧ ∀ k n,En EH (j+k) T h n=En EH k t' h n):=⟨_,fun r=>Iff.rfl⟩
    have g0:G κ0:=(hG _).2 (.inl rfl)
    rw [←hT]
    refine (hG _).1 ?_
    rw [hT]
    refine EJ (G:=G) g0 fun i0 hi=>EJ (G:=G) g0 fun m0 hm=>Q1 (G:=G) g0 fun p off len cap ex esz hs=>Sw (G:=G) g0 fun x0 hx=>GI (G:=G) (Ov (G:=G) g0 fun nb c sup prev hp=>?_)
    subst hi hm hs hx
    refine D1 (G:=G) g0 fun b1=>D1 (G:=G) g0 fun b2=>D1 (G:=G) g0 fun b3=>D1 (G:=G) g0 fun b4=>D1 (G:=G) g0 fun b5=>D1 (G:=G) g0 fun b6=>?_
    have b1:=Nat.le_of_ble_eq_true b1
    have b2:=Nat.le_of_ble_eq_true b2
    have b3:off+len≤nb:=Nat.le_of_ble_eq_true b3
    have b4:=Nat.eq_of_beq_eq_true b4
    have b5:=Nat.le_of_ble_eq_true b5
    have b6:=Nat.le_of_ble_eq_true b6
    subst b4
    obtain ⟨j,hj⟩:∃ j,Nat.sub m0 i0=j+1:=⟨m0 - i0 - 1,by show m0 - i0=_; omega⟩
    have hj':m0 - i0=j+1:=hj
    rw [hj,Af,Af,PH,PR]
    refine (hG _).2 (.inr ⟨j+1,_,rfl,fun K n=>?_⟩)
    rw [hT,Jh hp b2 b3 b6 j i0 x0 d7 (by omega) b5 K,show i0+(j+1)=m0 by omega]; rfl
theorem TJ:AB EH=KF EH Tj:=IC QW
def Fv:S->Heap->K4->R:=fun t h n=>g5 t fun z3=>g4 t fun z4=>Ap z3 z4 fun z5=>Ao z5 (Ad 1 (g3 t fun z6=>Ar 1 z6 z3 fun z7=>Aa z7 h fun z8=>g2 t fun z9=>H9 z9 (.int .u64 8) fun za=>AW .u64 z8 fun zb=>N5 za zb fun zc=>w2 t zc fun t=>.ok .nrm t h n) fun t h n=>g5 t fun zd=>Ag zd (.int .i64 1) fun ze=>w5 t ze fun t=>.ok .nrm t h n)<|.ok (.exit 0) t h n
abbrev J4 (x b:Nat):Nat:=Nat.lor (Nat.mod (Nat.shiftLeft x 8) 18446744073709551616) b
def HF (j:Nat):Nat->Nat->Nat:=@Nat.rec (fun _=>Nat->Nat->Nat) (fun _ x=>x) (fun _ ih d x=>ih (sh d 1) (J4 x (lo d 1))) j
def Th (j:Nat):Nat->Nat->(Nat->R)->R:=@Nat.rec (fun _=>Nat->Nat->(Nat->R)->R) (fun _ x κ=>κ x) (fun _ ih d x κ=>Ah (J4 x (lo d 1)) fun x=>Ah (sh d 1) fun d=>ih d x κ) j
theorem Oh:∀ (j d x:Nat) (κ:Nat->R),Th j d x κ=κ (HF j d x)
 | 0,_,_,_=>rfl
 | j+1,d,x,κ=>by
  show Ah (J4 x (lo d 1)) (fun x=>Ah (sh d 1) fun d=>Th j d x κ)=κ (HF j (sh d 1) (J4 x (lo d 1)))
  rw [Af,Af,Oh]
theorem Nx:∀ (j d x:Nat),HF j (lo d j) x=HF j d x
 | 0,_,_=>rfl
 | j+1,d,x=>by
  show HF j (sh (lo d (j+1)) 1) (J4 x (lo (lo d (j+1)) 1))=HF j (sh d 1) (J4 x (lo d 1))
  rw [UJ,UG,Nx]
def SH:Ok:=fun t h κ κ0=>g5 t fun i=>g4 t fun m=>g3 t fun s=>g2 t fun x=>Gb i κ0 fun i0=>Gb m κ0 fun m0=>YA s κ0 fun p off len esz=>Xj x κ0 fun x0=>Bp p h fun o=>V7 o κ0 fun nb c =>
 br (Nat.ble (Nat.succ i0) m0) (br (Nat.ble m0 len) (br (Nat.ble (Nat.add off len) nb) (br (Nat.beq esz 1) (br (Nat.ble m0 4611686018427387904)
  (Ah (Nat.sub m0 i0) fun j=>Ah (lo (sh c (Nat.add off i0)) j) fun d=>Th j d x0 fun x=>w2 t (.int .u64 x) fun t=>w5 t (.int .i64 m0) fun t=>κ j t) κ0) κ0) κ0) κ0) κ0
theorem ON {d0 d1 d6 d7:V} {c2 c3 c4 c5 c6 c7:SQ} {h:Heap} {n p:K4} {off len cap m i x nb c:Nat} {ex sup:Bool} {prev:Option K4}
  (hp:AG p h=some (.c (.b nb c) sup prev)) (hi:i<m) (hm:m≤len) (hl:off+len≤nb) (hb:m≤4611686018427387904) :
  Fv (.mk (.mk d0 d1 (.int .u64 x) (.sl p off len cap ex 1)) (.mk (.int .i64 m) (.int .i64 i) d6 d7) c2 c3 c4 c5 c6 c7) h n
   = .ok .nrm (.mk (.mk d0 d1 (.int .u64 (J4 x (lo (sh c (off+i)) 1))) (.sl p off len cap ex 1)) (.mk (.int .i64 m) (.int .i64 (i+1)) d6 d7) c2 c3 c4 c5 c6 c7) h n:=by
 unfold Fv
 show Ap (.int .i64 i) (.int .i64 m) _=_
 rw [Qk hi hb]
 show Ad 1 (Ar 1 (.sl p off len cap ex 1) (.int .i64 i) _) _=_
 rw [SD (by omega) (by omega),SJ hp (by omega),Nat.mul_one]
 have e1:∀ (κ:V->R),H9 (.int .u64 x) (.int .u64 8) κ=κ (.int .u64 (Nat.mod (Nat.shiftLeft x 8) 18446744073709551616)):=fun κ=>by
  have e0:H9 (.int .u64 x) (.int .u64 8) κ=Ah (Nat.mod (Nat.shiftLeft x 8) 18446744073709551616) fun r=>κ (.int .u64 r):=rfl
  rw [e0,Af]
 have e2:∀ (a b:Nat) (κ:V->R),N5 (.int .u64 a) (.int .u64 b) κ=κ (.int .u64 (Nat.lor a b)):=fun a b κ=>by
  have e0:N5 (.int .u64 a) (.int .u64 b) κ=Ah (Nat.lor a b) fun r=>κ (.int .u64 r):=rfl
  rw [e0,Af]
 show Ad 1 (H9 (.int .u64 x) (.int .u64 8) _) _=_
 rw [e1,Ss (Qr _) (by decide),e2,FR]
 show Ag (.int .i64 i) (.int .i64 1) _=_
 rw [KU (by omega)]
theorem J2 {d0 d1 d6 d7:V} {c2 c3 c4 c5 c6 c7:SQ} {h:Heap} {n p:K4} {off len cap m nb c:Nat} {ex sup:Bool} {prev:Option K4}
  (hp:AG p h=some (.c (.b nb c) sup prev)) (hm:m≤len) (hl:off+len≤nb) (hb:m≤4611686018427387904) :
  ∀ (j i x:Nat),i+j≤m->∀ K,En Fv (j+K) (.mk (.mk d0 d1 (.int .u64 x) (.sl p off len cap ex 1)) (.mk (.int .i64 m) (.int .i64 i) d6 d7) c2 c3 c4 c5 c6 c7) h n
   = En Fv K (.mk (.mk d0 d1 (.int .u64 (HF j (sh c (off+i)) x)) (.sl p off len cap ex 1)) (.mk (.int .i64 m) (.int .i64 (i+j)) d6 d7) c2 c3 c4 c5 c6 c7) h n
 | 0,i,x,hj,K=>by rw [Nat.zero_add]; rfl
 | j+1,i,x,hj,K=>by
  rw [show j+1+K=(j+K)+1 by omega,Dj]
  show Vn (Fv _ h n) (En Fv (j+K))=_
  rw [ON hp (by omega) hm hl hb]
  show En Fv (j+K) _ h n=_
  rw [J2 hp hm hl hb j (i+1) _ (by omega) K]
  have e:HF (j+1) (sh c (off+i)) x=HF j (sh (sh c (off+i)) 1) (J4 x (lo (sh c (off+i)) 1)):=rfl
  rw [e,Qy,show off+(i+1)=off+i+1 by omega,show i+1+j=i+(j+1) by omega]
theorem Rl:KD Fv SH:=by
 intro t h κ κ0
 cases t with
 | mk c0 c1 c2 c3 c4 c5 c6 c7 =>
  cases c0 with
  | mk d0 d1 x s =>
   cases c1 with
   | mk m i d6 d7 =>
    obtain ⟨T,hT⟩:∃ T:S,T = .mk (.mk d0 d1 x s) (.mk m i d6 d7) c2 c3 c4 c5 c6 c7:=⟨_,rfl⟩
    obtain ⟨G,hG⟩:∃ G:R->Prop,∀ r,G r ↔ (r=κ0 ∨ ∃ j t',r=κ j t' ∧ ∀ k n,En Fv (j+k) T h n=En Fv k t' h n):=⟨_,fun r=>Iff.rfl⟩
    have g0:G κ0:=(hG _).2 (.inl rfl)
    rw [←hT]
    refine (hG _).1 ?_
    rw [hT]
    refine EJ (G:=G) g0 fun i0 hi=>EJ (G:=G) g0 fun m0 hm=>Q1 (G:=G) g0 fun p off len cap ex esz hs=>Tt (G:=G) g0 fun x0 hx=>GI (G:=G) (Ov (G:=G) g0 fun nb c sup prev hp=>?_)
    subst hi hm hs hx
    refine D1 (G:=G) g0 fun b1=>D1 (G:=G) g0 fun b2=>D1 (G:=G) g0 fun b3=>D1 (G:=G) g0 fun b4=>D1 (G:=G) g0 fun b6=>?_
    have b1:=Nat.le_of_ble_eq_true b1
    have b2:=Nat.le_of_ble_eq_true b2
    have b3:off+len≤nb:=Nat.le_of_ble_eq_true b3
    have b4:=Nat.eq_of_beq_eq_true b4
    have b6:=Nat.le_of_ble_eq_true b6
    subst b4
    rw [Af,Af,Oh,Nx]
    refine (hG _).2 (.inr ⟨Nat.sub m0 i0,_,rfl,fun K n=>?_⟩)
    rw [hT,J2 hp b2 b3 b6 (Nat.sub m0 i0) i0 x0 (by show i0+(m0 - i0)≤m0; omega) K,show i0+Nat.sub m0 i0=m0 by show i0+(m0 - i0)=m0; omega]; rfl
theorem Ub:AB Fv=KF Fv SH:=IC Rl
end Go.Ev

namespace Go.Ev
set_option linter.unusedVariables false
theorem L1 {P:Program} {f:FuncId} {fn:Func} {c:Code} {xs:Array Value} {w:World} {R:Value->World->Prop} (hf:P.funcs[f]? = some fn) (hb:fn.body=some c) (hn:(fn.name == "runtime.NumGoroutine")=false)
  (h:Calls P f xs w fun e w'=>∃ v,e = .returned v∧R v w'):Jk P f xs w R:=by
 intro o a K Q hK
 have hn':fn.name ≠ "runtime.NumGoroutine":=by simpa using hn
 have e:(callFunc f xs).run P w = .ok (.enter f xs) w:=by simp [callFunc,hf,hn',hb]
 rw [e]
 show Calls P f xs w _
 refine h.mono fun e w' ⟨v,he,hv⟩=>?_
 subst he
 exact hK v w' hv
def NN (r:Nat) (m:Nat):Nat->Nat->(Nat->R)->R :=
 @Nat.rec (fun _=>Nat->Nat->(Nat->R)->R) (fun _ a κ=>κ a)
  (fun _ ih c a κ=>br (Nat.beq (lo c 1) r) (Ah (sh c 1) fun d=>Ah (Nat.succ a) fun a=>ih d a κ) (Ah (sh c 1) fun d=>ih d a κ)) m
theorem Ul (b:UInt8) (l:List UInt8):∀ (a:Nat) (κ:Nat->R),NN b.toNat l.length (AZ l) a κ=κ (a+Lib.countByte l b):=by
 induction l with
 | nil=>intro a κ; show κ a=κ (a+Lib.countByte [] b); simp [Lib.countByte]
 | cons x l ih =>
  intro a κ
  have hx:=x.toNat_lt
  have e0:lo (AZ (x::l)) 1=x.toNat:=by rw [Dw]; simp only [AZ]; omega
  have e1:sh (AZ (x::l)) 1=AZ l:=by rw [ED]; simp only [AZ]; omega
  have e2:NN b.toNat (x::l).length (AZ (x::l)) a κ=br (Nat.beq x.toNat b.toNat) (NN b.toNat l.length (AZ l) (a+1) κ) (NN b.toNat l.length (AZ l) a κ):=by
   have:NN b.toNat (x::l).length (AZ (x::l)) a κ=br (Nat.beq (lo (AZ (x::l)) 1) b.toNat) (Ah (sh (AZ (x::l)) 1) fun d=>Ah (Nat.succ a) fun a=>NN b.toNat l.length d a κ) (Ah (sh (AZ (x::l)) 1) fun d=>NN b.toNat l.length d a κ):=rfl
   rw [this,e0,e1,Af,Af,Af]
  rw [e2,ih,ih]
  have hc:Lib.countByte (x::l) b=Lib.countByte l b+if x == b then 1 else 0:=by unfold Lib.countByte; rw [List.count_cons]
  rw [hc]
  by_cases hb:x=b
  ·subst hb
   rw [Nat.beq_refl,AI]; simp; congr 1; omega
  ·have h1:Nat.beq x.toNat b.toNat=false:=by
    cases h:Nat.beq x.toNat b.toNat with
    | false=>rfl
    | true=>exact absurd (UInt8.toNat_inj.1 (Nat.eq_of_beq_eq_true h)) hb
   have h2:(x == b)=false:=by simpa using hb
   rw [h1,AM,h2]; simp
def Dq:IH:=fun args h n =>
 Ij args fun x l=>Ij l fun y l=>PD l (Bf x fun m c=>FZ y fun k r=>br (Bk k .u8) (br (Nat.ble m 1000000000) (NN r m c 0 fun i=>.rv (.int .i64 i) h n) (.fail "")) (.fail ""))
theorem Gk {P:Program} {ρ:Env} {B:Nat} {f:FuncId} (b:Bare P f Extern.BytealgCount.count):Hb P ρ B f Dq:=by
 intro args h n v h1 n1 hx φ w xs g hr
 have hg:(Dq args h n).good:=by rw [hx]; trivial
 unfold Dq at hx hg
 obtain ⟨x,l,rfl,q1⟩:=EC hg
 rw [q1] at hx hg
 obtain ⟨y,l,rfl,q2⟩:=EC hg
 rw [q2] at hx hg
 obtain ⟨rfl,q3⟩:=HS hg
 rw [q3] at hx
 obtain ⟨m,c,rfl,hx⟩:=NE hx
 obtain ⟨k,r,rfl,hx⟩:=OQ hx
 obtain ⟨hk,hx⟩:=Li hx
 have:=Bd.1 hk
 subst this
 obtain ⟨hm,hx⟩:=Li hx
 have hm:=Am.1 hm
 obtain ⟨x1,ys,hxs,hr1,hr⟩:=AF.1 hr
 obtain ⟨x2,ys,rfl,hr2,hr⟩:=AF.1 hr
 obtain rfl:=AN.1 hr
 obtain ⟨s,rfl,hsz,hc⟩:=(by simpa only [AD] using hr1:∃ s:ByteArray,x1 = .string s∧s.size=m∧AZ s.data.toList=c)
 obtain ⟨hlt,rfl⟩:=(by simpa only [AD] using hr2:r<Mk .u8∧x2 = .int .u8 (BE .u8 r))
 have hlt:r<256:=hlt
 have hdec:BE .u8 r=(r:Int):=Au (by show r<256; exact hlt)
 obtain rfl:xs = #[.string s,.int .u8 (BE .u8 r)]:=by cases xs; simp at hxs; simp [hxs]
 rw [hdec]
 refine b.runs (Lib.run_countString s r w) ⟨φ,?_⟩
 have hb:((r:Int).toNat.toUInt8).toNat=r:=by
  simp only [Int.toNat_natCast]
  exact UInt8.toNat_ofNat_of_lt' (show r<2 ^ 8 from hlt)
 have hl:s.data.toList.length=m:=by rw [←hsz]; rfl
 have key:=Ul ((r:Int).toNat.toUInt8) s.data.toList 0 (fun i=>R.rv (.int .i64 i) h n)
 rw [hb,hl,hc] at key
 rw [key] at hx
 have hle:Lib.countByte s.data.toList ((r:Int).toNat.toUInt8)≤m:=by rw [←hl]; exact List.count_le_length
 cases hx
 refine ⟨Fr.refl h φ n w,g,?_⟩
 simp only [AD]
 rw [Nat.zero_add]
 have h9:Lib.countByte s.data.toList ((r:Int).toNat.toUInt8)<9223372036854775808:=by omega
 exact ⟨Nat.lt_trans h9 (by decide),congrArg (Value.int .i64) (Au (k:=.i64) h9).symm⟩
section
variable {P:Program} {ρ:Env} {B:Nat}
end
abbrev iI (n:Nat):V:=.int .i64 n
abbrev iW (n:Nat):V:=.int .u32 n
abbrev iB (n:Nat):V:=.int .u8 n
abbrev iL (n:Nat):V:=.int .u64 n
abbrev nR (t:S) (h:Heap) (n:K4):R:=.ok .nrm t h n
abbrev rT (t:S) (h:Heap) (n:K4):R:=.ok .ret t h n
def o8 (i:Nat):O8:=@Nat.rec (fun _=>O8) .d0 (fun i _=>@Nat.rec (fun _=>O8) .d1 (fun i _=>@Nat.rec (fun _=>O8) .d2 (fun i _=>@Nat.rec (fun _=>O8) .d3 (fun i _=>@Nat.rec (fun _=>O8) .d4 (fun i _=>@Nat.rec (fun _=>O8) .d5 (fun i _=>@Nat.rec (fun _=>O8) .d6 (fun _ _=>.d7) i) i) i) i) i) i) i
def o4 (i:Nat):O4:=@Nat.rec (fun _=>O4) .d0 (fun i _=>@Nat.rec (fun _=>O4) .d1 (fun i _=>@Nat.rec (fun _=>O4) .d2 (fun _ _=>.d3) i) i) i
def mS (l:List Nat):SM:=@List.rec Nat (fun _=>Nat->SM) (fun _=>[]) (fun p _ ih i=>(⟨D.ofN (Nat.div p 16),D.ofN (Nat.mod p 16)⟩,⟨o8 (Nat.div i 4),o4 (Nat.mod i 4)⟩)::ih (Nat.succ i)) l 0
theorem GB {α:Type} {p:α->Bool} {l:List α} (k:Nat) (h1:((l.take k).all fun x=>!p x)=true) (h2:((l.drop k).all fun x=>!p x)=true):(l.all fun x=>!p x)=true:=by
 rw [←List.take_append_drop k l,List.all_append,h1,h2]; rfl
theorem PW {P:Program} (h:(P.funcs.toList.all fun fn=>!fn.goes)=true) (func:String):P.goesAt .entering func=false:=by
 have key:∀ g:Nat,(P.funcs[g]?).any Func.goes=false:=fun g=>by
  cases hx:P.funcs[g]? with
  | none=>rfl
  | some fn =>
   have hm:fn∈P.funcs.toList:=by
    rw [←Array.getElem?_toList] at hx
    exact List.mem_of_getElem? hx
   have:=List.all_eq_true.1 h fn hm
   simpa using this
 have hp:P.funcs.any Func.goes=false:=by
  rw [←Array.any_toList,Bool.eq_false_iff]
  intro hc
  obtain ⟨fn,hm,hg⟩:=List.any_eq_true.1 hc
  have:=List.all_eq_true.1 h fn hm
  rw [hg] at this; cases this
 have hgo:∀ f,P.goes f=false:=fun f=>by
  unfold Program.goes
  rw [hp,Bool.and_false,Bool.or_false,Bool.eq_false_iff]
  intro hc
  simp only [key] at hc
  simp at hc
 unfold Program.goesAt Program.goesFrom
 cases P.funcNamed func with
 | none=>rfl
 | some f=>simp [hgo f]
end Go.Ev

namespace Go.Ev
set_option linter.unusedVariables false
abbrev BX:=Nat->Option (Array Value×TypeId×(Nat×Nat))
def JW (P:Program) (fs:List Nat) (gl:BX):Env:={ Ia P fs with gl:=gl }
theorem Wv {P:Program} {fs:List Nat} {gl:BX}:Bh (JW P fs gl):=fun _=>rfl
section
variable {P:Program} {ρ:Env} {B:Nat}
theorem Ct.gl {fs:List Nat} {gl:BX} {f:FuncId} {e:Ent} (h:Ct P (Ia P fs) f e):Ct P (JW P fs gl) f e:=h
theorem Gz.mkG {fs:List Nat} {gl:BX} {T:FC} (h:∀ f e,Kr (Bb f) T=some e->MH P (JW P fs gl) B f e) (ha:∀ f∈fs,∃ e,Kr (Bb f) T=some e∧Ct P (JW P fs gl) f e):Gz P (JW P fs gl) B T:=by
 refine ⟨h,fun f A hA=>?_⟩
 have hA:@Bool.rec (fun _=>Option ApC) none (L7 P f) (fs.contains f)=some A:=hA
 cases hc:fs.contains f with
 | false=>rw [hc] at hA; cases hA
 | true=>exact ha f (List.contains_iff_mem.1 hc)
def Np (P:Program) (gl:BX) (name:String) (k:IntKind) (zs:List Int):Prop:=∃ g e fr,P.globalNamed name=some g∧gl g=some ((zs.map fun z=>Value.int k z).toArray,e,fr)
theorem Np.is {gl:BX} {name:String} {k:IntKind} {zs:List Int} {h:Heap} {n:K4} {φ:AY} {w:World} (t:Np P gl name k zs) (hgl:ρ.gl=gl) (g:Gam ρ B h n φ w):Lib.TabIs P w name k zs:=by
 obtain ⟨b,e,fr,h1,h2⟩:=t
 obtain ⟨_,h3⟩:=g.glob b _ e fr (by rw [hgl]; exact h2)
 unfold Lib.TabIs World.var?
 rw [h1,Option.bind_some,h3]
def Nh (w:World) (l:List Nat):BX:=fun b=>if b∈l then (match w.heap[b]? with | some (.cells c e fr)=>some (c,e,fr) | _=>none) else none
theorem Nd {P:Program} {fs:List Nat} {w:World} {l:List Nat}:Rg (JW P fs (Nh w l)) w:=fun b c e fr h=>by
 have h:Nh w l b=some (c,e,fr):=h
 unfold Nh at h
 split at h
 ·split at h
  ·rename_i c' e' fr' hw
   cases h
   refine ⟨?_,hw⟩
   rcases Nat.lt_or_ge b w.heap.size with hb | hb
   ·exact hb
   ·rw [Array.getElem?_eq_none hb] at hw; cases hw
  ·cases h
 ·cases h
theorem Np.of {w:World} {l:List Nat} {g:Nat} {name:String} {k:IntKind} {zs:List Int} (hg:P.globalNamed name=some g) (hl:g∈l) (h:Lib.TabIs P w name k zs):Np P (Nh w l) name k zs:=by
 unfold Lib.TabIs World.var? at h
 rw [hg,Option.bind_some] at h
 split at h
 ·rename_i c e fr hw
  cases h
  refine ⟨g,e,fr,hg,?_⟩
  unfold Nh
  rw [if_pos hl,hw]
 ·cases h
def VL (m:Nat):Nat->Nat:=@Nat.rec (fun _=>Nat->Nat) (fun _=>1) (fun _ ih u=>br (Nat.ble (Nat.succ u) 10) 1 (Nat.succ (ih (Nat.div u 10)))) m
theorem P5:∀ (m u:Nat),u<10 ^ (m+1)->VL m u=Lib.nDigits u
 | 0,u,h=>by rw [Lib.nDigits_small (by simpa using h)]; rfl
 | m+1,u,h=>by
  have e:VL (m+1) u=br (Nat.ble (Nat.succ u) 10) 1 (Nat.succ (VL m (u / 10))):=rfl
  rw [e]
  by_cases hu:u<10
  ·rw [Am.2 (by omega),AI,Lib.nDigits_small hu]
  ·rw [Bj (by omega),AM,Lib.nDigits_big hu,P5 m (u / 10) (by rw [Nat.pow_succ] at h; omega)]
theorem Pd {u:Nat} (h:u<18446744073709551616):Lib.nDigits u≤20:=by
 rw [←P5 19 u (by omega)]
 have:∀ (m u:Nat),VL m u≤m+1:=by
  intro m
  induction m with
  | zero=>intro u; exact Nat.le_refl _
  | succ m ih =>
   intro u
   have e:VL (m+1) u=br (Nat.ble (Nat.succ u) 10) 1 (Nat.succ (VL m (u / 10))):=rfl
   rw [e]
   cases Nat.ble (Nat.succ u) 10 with
   | true=>show 1≤_; omega
   | false=>have:=ih (u / 10); show Nat.succ _≤_; omega
 exact this 19 u
def HM:IH:=fun args h n =>
 Ij args fun x l=>PD l (FZ x fun k r=>br (Bk k .u64) (br (Nat.ble 1 r) (Ah (VL 19 r) fun i=>.rv (.int .i64 i) h n) (.fail "")) (.fail ""))
def Nr (P:Program) (f:FuncId):Prop:=∀ (u:Nat),1≤u->u<18446744073709551616->∀ w:World,Lib.TabIs P w "internal/strconv.uint64pow10" .u64 Lib.pow10Tab->Calls P f #[.int .u64 u] w fun e w'=>e = .returned (.int .i64 (Lib.nDigits u))∧w'=w
theorem M1 {f:FuncId} {fn:Func} {gl:BX} (hf:P.funcs[f]? = some fn) (hb:fn.body.isSome=true) (hn:(fn.name == "runtime.NumGoroutine")=false) (hS:Nr P f) (hgl:ρ.gl=gl) (ht:Np P gl "internal/strconv.uint64pow10" .u64 Lib.pow10Tab):Hb P ρ B f HM:=by
 intro args h n v h1 n1 hx φ w xs g hr
 have hg:(HM args h n).good:=by rw [hx]; trivial
 unfold HM at hx hg
 obtain ⟨x,l,rfl,q1⟩:=EC hg
 rw [q1] at hx hg
 obtain ⟨rfl,q2⟩:=HS hg
 rw [q2] at hx
 obtain ⟨k,r,rfl,hx⟩:=OQ hx
 obtain ⟨hk,hx⟩:=Li hx
 obtain rfl:=Bd.1 hk
 obtain ⟨h1',hx⟩:=Li hx
 have h1':=Am.1 h1'
 rw [Af] at hx
 cases hx
 obtain ⟨X,ys,hX,r0,hr⟩:=AF.1 hr
 obtain rfl:=AN.1 hr
 obtain ⟨hlt,rfl⟩:=C8 r0
 have hlt:r<18446744073709551616:=hlt
 have hxs:xs = #[.int .u64 (BE .u64 r)]:=by cases xs; simp at hX; rw [hX]
 subst hxs
 rw [show BE .u64 r=(r:Int) from Au (by simp only [Hk]; exact hlt)]
 obtain ⟨c,hc⟩:=Option.isSome_iff_exists.1 hb
 refine L1 hf hc hn ((hS r h1' hlt w (ht.is hgl g)).mono fun e w' ⟨he,hw⟩=>⟨_,he,?_⟩)
 subst hw
 refine ⟨φ,Fr.refl h φ n _,g,?_⟩
 rw [P5 19 r (by omega)]
 have:=Pd hlt
 simp only [AD]
 generalize Lib.nDigits r=d at this
 exact ⟨by simp only [Mk]; omega,congrArg (Value.int .i64) (Au (k:=.i64) (by simp only [Hk]; omega)).symm⟩
end
theorem J0 {P:Program} {w:World}:∀ {l:List (String×DataW Unit)} {ps:List MemPlace},DataW.LaidVars P w l ps->∀ {name:String} {d:DataW Unit},(name,d)∈l →
  ∃ g t cs fuel p,P.globalNamed name=some g∧(P.globals[g]?).map (·.type)=some t∧w.var? P name=some cs∧DataW.trod (fun _=>()) P w 0 (fun _=>true) false fuel t cs.toList=some (d,p)
 | [],_,_,_,_,hm=>by cases hm
 | (n,d)::r,ps,h,name,d',hm=>by
  obtain ⟨g,t,cs,fuel,p,q,h1,h2,h3,h4,h5,_⟩:=h
  rcases List.mem_cons.1 hm with e | e
  ·cases e; exact ⟨g,t,cs,fuel,p,h1,h2,h3,h4⟩
  ·exact J0 h5 e
theorem Ih {P:Program} {W:World} {name:String} {k:IntKind} {zs:List Int} {l:List (String×DataW Unit)} {g:Nat} {t e:TypeId} {n:Nat}
  (hg:P.globalNamed name=some g) (hty:(P.globals[g]?).map (·.type)=some t) (ht:P.underlying t=some (.array n e)) (he:P.underlying e=some (.int k)) (hce:P.cellsOf e=1) (hct:P.cellsOf t=n)
  (hm:(name,Lib.tabData k zs)∈l) (h:laidMet P l W):Lib.TabIs P W name k zs:=by
 obtain ⟨ps,hv,_⟩:=h
 obtain ⟨g',t',cs,fuel,p,hg',ht',hvar,hd⟩:=J0 hv hm
 obtain rfl:=Option.some.inj (hg.symm.trans hg')
 obtain rfl:=Option.some.inj (hty.symm.trans ht')
 unfold Lib.TabIs
 rw [hvar,←Lib.cells_of_tab ht he hce hct hd]
end Go.Ev

namespace Go.Ev
set_option linter.unusedVariables false
open Go.RowKit
def SW (x y:V):Bool :=
 @V.rec (fun _=>Bool) (fun _=>Unit) (fun k r=>@V.rec (fun _=>Bool) (fun _=>Unit) (fun j b=>br (Bk k j) (Nat.beq r b) false) (fun _=>false) (fun _ _=>false) (fun _ _ _ _ _ _=>false) (fun _ _=>false) (fun _ _=>false) (fun _=>false) (fun _=>false) (fun _ _ _=>false) (fun _ _=>false) (fun _=>false) () (fun _ _ _ _=>()) y)
  (fun p=>@V.rec (fun _=>Bool) (fun _=>Unit) (fun _ _=>false) (fun q=>br p q (br q false true)) (fun _ _=>false) (fun _ _ _ _ _ _=>false) (fun _ _=>false) (fun _ _=>false) (fun _=>false) (fun _=>false) (fun _ _ _=>false) (fun _ _=>false) (fun _=>false) () (fun _ _ _ _=>()) y)
  (fun _ _=>false) (fun _ _ _ _ _ _=>false)
  (fun n c=>@V.rec (fun _=>Bool) (fun _=>Unit) (fun _ _=>false) (fun _=>false) (fun _ _=>false) (fun _ _ _ _ _ _=>false) (fun m d=>br (Nat.beq n m) (Nat.beq c d) false) (fun _ _=>false) (fun _=>false) (fun _=>false) (fun _ _ _=>false) (fun _ _=>false) (fun _=>false) () (fun _ _ _ _=>()) y)
  (fun _ _=>false) (fun _=>false) (fun _=>false) (fun _ _ _=>false) (fun _ _=>false) (fun _=>false) () (fun _ _ _ _=>()) x
def O1 (v:V):Prop:=∀ (ρ:Env) (φ φ':AY) x,AD ρ φ v x->AD ρ φ' v x
theorem Qj {c x:Bool} (h:br c x false=true):c=true∧x=true:=by cases c; cases h; exact ⟨rfl,h⟩
theorem Qp {x y:V} (h:SW x y=true):x=y∧O1 x:=by
 cases x with
 | int k r=>cases y with
  | int j b =>
   obtain ⟨h1,h2⟩:=Qj (show br (Bk k j) (Nat.beq r b) false=true from h)
   rw [Bd.1 h1,Nat.eq_of_beq_eq_true h2]
   exact ⟨rfl,fun ρ φ φ' x hx=>by simpa only [AD] using hx⟩
  | _=>cases h
 | bool p=>cases y with
  | bool q =>
   have h:br p q (br q false true)=true:=h
   have:p=q:=by cases p <;> cases q <;> first | rfl | cases h
   rw [this]
   exact ⟨rfl,fun ρ φ φ' x hx=>by simpa only [AD] using hx⟩
  | _=>cases h
 | str n c=>cases y with
  | str m d =>
   obtain ⟨h1,h2⟩:=Qj (show br (Nat.beq n m) (Nat.beq c d) false=true from h)
   rw [Nat.eq_of_beq_eq_true h1,Nat.eq_of_beq_eq_true h2]
   exact ⟨rfl,fun ρ φ φ' x hx=>by simpa only [AD] using hx⟩
  | _=>cases h
 | _=>cases h
def NQ (l:List V):List V->Bool :=
 @List.rec V (fun _=>List V->Bool) (fun r=>@List.rec V (fun _=>Bool) true (fun _ _ _=>false) r) (fun x _ ih r=>@List.rec V (fun _=>Bool) false (fun y r _=>br (SW x y) (ih r) false) r) l
theorem Of:∀ {l r:List V},NQ l r=true->l=r ∧ ∀ x∈l,O1 x
 | [],[],_=>⟨rfl,fun x hx=>by cases hx⟩
 | [],_::_,h=>by cases h
 | _::_,[],h=>by cases h
 | x::l,y::r,h=>by
  obtain ⟨h1,h2⟩:=Qj (show br (SW x y) (NQ l r) false=true from h)
  obtain ⟨rfl,p⟩:=Qp h1
  obtain ⟨rfl,q⟩:=Of h2
  exact ⟨rfl,fun z hz=>by
   rcases List.mem_cons.1 hz with rfl | hz
   ·exact p
   ·exact q z hz⟩
def rIs (v:V) (r:R):Bool:=@R.rec (fun _=>Bool) (fun _ _ _ _=>false) (fun u _ _=>SW u v) (fun _=>false) (fun _ _ _ _=>false) r
theorem Vt {v:V} {r:R} (h:rIs v r=true):(∃ h1 n1,r = .rv v h1 n1)∧O1 v:=by
 cases r with
 | rv u h1 n1=>obtain ⟨rfl,p⟩:=Qp (show SW u v=true from h); exact ⟨⟨h1,n1,rfl⟩,p⟩
 | _=>cases h
abbrev Rr:=List (List V×V)
def LJ (l:Rr):IH :=
 @List.rec (List V×V) (fun _=>IH) (BU "") (fun e _ ih args h n=>@Prod.rec (List V) V (fun _=>R) (fun a v=>br (NQ args a) (.rv v h n) (ih args h n)) e) l
theorem O5:∀ {l:Rr} {args:List V} {h:Heap} {n:K4} {v:V} {h1:Heap} {n1:K4},LJ l args h n = .rv v h1 n1->h1=h∧n1=n∧(args,v)∈l ∧ ∀ x∈args,O1 x
 | [],args,h,n,v,h1,n1,hx=>by cases hx
 | (a,u)::l,args,h,n,v,h1,n1,hx=>by
  have e0:LJ ((a,u)::l) args h n=br (NQ args a) (R.rv u h n) (LJ l args h n):=rfl
  rw [e0] at hx
  clear e0
  cases hb:NQ args a with
  | true =>
   rw [hb,AI] at hx
   obtain ⟨e1,p⟩:=Of hb
   cases hx
   exact ⟨rfl,rfl,by rw [e1]; exact List.mem_cons_self ..,p⟩
  | false =>
   rw [hb] at hx
   obtain ⟨h1,h2,h3,h4⟩:=O5 (show LJ l args h n=_ from hx)
   exact ⟨h1,h2,List.mem_cons_of_mem _ h3,h4⟩
def KI (T:FC) (m:Nat) (f:FuncId) (l:Rr):Prop:=∀ a v,(a,v)∈l->rIs v (Ch T m (Bb f) a AL IL)=true
theorem Tk {T:FC} {m:Nat} {f:FuncId}:KI T m f []:=fun a v h=>by cases h
theorem Ru {T:FC} {m:Nat} {f:FuncId} {a:List V} {v:V} {l:Rr} (h:rIs v (Ch T m (Bb f) a AL IL)=true) (k:KI T m f l):KI T m f ((a,v)::l):=fun a' v' h'=>by
 rcases List.mem_cons.1 h' with e | e
 ·cases e; exact h
 ·exact k a' v' e
section
variable {P:Program} {ρ:Env} {B:Nat}
theorem Gam.below {h:Heap} {n:K4} {φ:AY} {w w':World} (g:Gam ρ B h n φ w) (b:Below w.heap.size w w'):Gam ρ B h n φ w'∧Fr h h φ φ n n w w':=by
 obtain ⟨b1,b2,b3,b4,b5⟩:=b
 refine ⟨⟨Nat.le_trans g.base b4,g.dom,fun p b s t hp=>⟨(g.blk p b s t hp).1,Nat.lt_of_lt_of_le (g.blk p b s t hp).2 b4⟩,fun p o b s t ho hp=>C5 (b5 b (g.blk p b s t hp).2) (g.obj p o b s t ho hp),g.sep,g.sup,
  fun b c e fr hb=>⟨(g.glob b c e fr hb).1,by rw [b5 b (Nat.lt_of_lt_of_le (g.glob b c e fr hb).1 g.base)]; exact (g.glob b c e fr hb).2⟩⟩,
  ⟨AY.le_refl φ,fun _ _ h=>.inl h,Nat.le_refl _,b1,b2,b3,b4,fun b hb _=>b5 b hb,fun _ _ _ _ h=>.inl h,fun _ _ h=>h⟩⟩
theorem Kh {φ φ':AY}:∀ {l:List V} {xs:List Value},(∀ x∈l,O1 x)->Bo ρ φ l xs->Bo ρ φ' l xs
 | [],xs,_,h=>by rw [AN] at h ⊢; exact h
 | v::l,xs,p,h=>by
  rw [AF] at h ⊢
  obtain ⟨y,ys,e,h1,h2⟩:=h
  exact ⟨y,ys,e,p v (List.mem_cons_self ..) ρ φ φ' y h1,Kh (fun x hx=>p x (List.mem_cons_of_mem _ hx)) h2⟩
theorem Ux (hρ:Bh ρ) (hm:P.follows .mixedOrders=true) {T:FC} (hT:∀ B,Gz P ρ B T) {m:Nat} {f:FuncId} {l:Rr} (hl:KI T m f l):Hb P ρ B f (LJ l):=by
 intro args h n v h1 n1 hx φ w xs g hr
 obtain ⟨rfl,rfl,hmem,hp⟩:=O5 hx
 obtain ⟨⟨h2,n2,hc⟩,hv⟩:=Vt (hl _ _ hmem)
 intro o a K Q hK
 refine On (B:=w.heap.size) hρ hm (hT _) m f args AL IL _ h2 n2 hc (fun _=>none) w xs (Iy w IL fun b c e fr hb=>⟨Nat.lt_of_lt_of_le (g.glob b c e fr hb).1 g.base,(g.glob b c e fr hb).2⟩) (Kh hp hr) o a K Q fun x w' ⟨φ',f1,_,hr1⟩=>hK x w' ?_
 obtain ⟨g2,f2⟩:=g.below (J7 f1)
 exact ⟨φ,f2,g2,hv ρ φ' φ x hr1⟩
end
theorem RZ {a:Int} (h:(Lit.int .i64 a).wf=true) : -9223372036854775808≤a∧a<9223372036854775808:=by
 simp [Lit.wf,IntKind.min,IntKind.max,IntKind.signed,IntKind.bits] at h
 omega
theorem QF {ρ:Env} {φ:AY} {a:Int} {lo:Nat} (h:(lo:Int)≤a) (h2:a<9223372036854775808):AD ρ φ (.oth (.iv .i64 lo 9223372036854775807)) (.int .i64 a):=by
 simp only [AD]
 refine ⟨a.toNat,by omega,by omega,by simp only [Mk]; omega,?_⟩
 rw [Au (by simp only [Hk]; omega)]
 congr 1; omega
theorem OU {ρ:Env} {φ:AY} {a:Int} (h:a<0) (h2 : -9223372036854775808≤a):AD ρ φ (.oth (.iv .i64 9223372036854775808 18446744073709551615)) (.int .i64 a):=by
 simp only [AD]
 refine ⟨(a+18446744073709551616).toNat,by omega,by omega,by simp only [Mk]; omega,?_⟩
 rw [Cr (by simp only [Hk]; omega)]
 congr 1; simp only [Mk]; omega
def Al (r:R):Bool:=@R.rec (fun _=>Bool) (fun _ _ _ _=>false) (fun v _ _=>UO v) (fun _=>false) (fun _ _ x y=>br x y false) r
theorem Ko:∀ {r:R},Al r=true->r.sat (fun x=>∃ h n,x = .rv (.bool true) h n)
 | .ok _ _ _ _,h=>by cases h
 | .fail _,h=>by cases h
 | .rv v h n,hx=>by
  cases v with
  | bool b=>have:b=true:=hx; subst this; exact ⟨h,n,rfl⟩
  | _=>cases hx
 | .both a b,hx=>by
  obtain ⟨h1,h2⟩:=Qj (show br (Al a) (Al b) false=true from hx)
  exact ⟨Ko h1,Ko h2⟩
end Go.Ev

namespace Go.Ev
set_option linter.unusedVariables false
section
variable {P:Program} {ρ:Env} {B:Nat}
theorem QH {w:World} {l:List Nat} {b:Nat} {c:Array Value} {e:TypeId} {fr:Nat×Nat} (hb:b∈l) (h:w.heap[b]? = some (.cells c e fr)):Nh w l b=some (c,e,fr):=by
 unfold Nh
 rw [if_pos hb,h]
theorem Pu {w:World} {a:Addr} {v:Value} (h:w.cell? a=some v):∃ b o c e fr,a=⟨b,o,none⟩∧w.heap[b]? = some (.cells c e fr)∧c[o]? = some v:=by
 obtain ⟨b,o,sp⟩:=a
 unfold World.cell? at h
 split at h
 ·rename_i c e fr hw
  split at h
  ·cases h
  ·rename_i hs
   cases sp with
   | none=>exact ⟨b,o,c,e,fr,rfl,hw,h⟩
   | some x=>exact absurd rfl hs
 ·cases h
theorem U3 {z:Int} (h:(Lit.int .i64 z).wf=true):∃ r,r<Mk .i64∧Value.int .i64 z = .int .i64 (BE .i64 r):=by
 have:=RZ h
 by_cases h0:0≤z
 ·refine ⟨z.toNat,by simp only [Mk]; omega,?_⟩
  rw [Au (by simp only [Hk]; omega)]; congr 1; omega
 ·refine ⟨(z+18446744073709551616).toNat,by simp only [Mk]; omega,?_⟩
  rw [Cr (by simp only [Hk]; omega)]; congr 1; simp only [Mk]; omega
theorem JL {H:Type} {enc:TypeId×Value->H} {w:World} {base:Nat} {spare:Nat->Bool} {held:Bool} {fuel:Nat} {t e:TypeId} {cs:List Value} {x:DataW H×List MemPlace}
  (ht:P.underlying t=some (.slice e)) (he:P.underlying e=some (.int .i64)) (ce:P.cellsOf e=1) (h:DataW.trod enc P w base spare held fuel t cs=some x) :
  cs=[.slice none 0 0] ∨ ∃ a len cap,cs=[.slice (some a) len cap]∧len≤cap∧cap≤maxLen ∧
   (1≤len->∃ b o c e' fr,a=⟨b,o,none⟩∧w.heap[b]? = some (.cells c e' fr) ∧ ∀ j,j<len->∃ r,r<Mk .i64∧c[o+j]? = some (.int .i64 (BE .i64 r))):=by
 rcases Go.Deep.open_slice1 ht ce h with ⟨hc,_⟩ | ⟨a,len,cap,m,n,V,D,Pl,hc,_,hl,hm,hmm,_,hx⟩
 ·exact .inl hc
 ·refine .inr ⟨a,len,cap,hc,hl,hm,fun hpos=>?_⟩
  have hlm:len≤m:=by rw [hmm]; split <;> omega
  have key:∀ i,i<len->∃ z,w.cell? (a.add i)=some (.int .i64 z)∧(Lit.int .i64 z).wf=true:=fun i hi=>by
   obtain ⟨e1,e2⟩:=hx i (by omega)
   obtain ⟨z,ez,_,wz⟩:=DataW.trod_int he e2
   simp at ez
   exact ⟨z,by rw [e1,ez],wz⟩
  obtain ⟨z,hz,_⟩:=key 0 hpos
  have hz:w.cell? a=_:=hz
  obtain ⟨b,o,c,e',fr,ea,hw,hco⟩:=Pu hz
  refine ⟨b,o,c,e',fr,ea,hw,fun j hj=>?_⟩
  obtain ⟨z,hz,wz⟩:=key j hj
  rw [ea,Go.WideShapes.add_plain] at hz
  obtain ⟨r,hr,er⟩:=U3 wz
  refine ⟨r,hr,?_⟩
  rw [←er]
  simpa [World.cell?,hw] using hz
end
section
variable {ρ:Env} {φ:AY} {b o len cap lo hi hi' i:Nat} {c:Array Value} {e:TypeId} {fr:Nat×Nat}
theorem TZ (hg:ρ.gl b=some (c,e,fr)) (h:∀ j,j<len->∃ r,r<Mk .i64∧c[o+j]? = some (.int .i64 (BE .i64 r))) (h1:lo≤len) (h2:len≤hi) (h3:len≤cap) :
  AD ρ φ (.oth (.ro 36893488147419103232 lo hi 1)) (.slice (some ⟨b,o,none⟩) len cap):=by
 simp only [AD]
 refine ⟨b,o,len,cap,c,e,fr,rfl,h1,h2,h3,hg,fun j hj=>?_⟩
 obtain ⟨r,hr,hc⟩:=h j (by omega)
 exact ⟨_,hc,.inr (.inr (.inr (.inl ⟨Nat.le_refl _,by decide,r,hr,rfl,fun h=>absurd h (Nat.lt_irrefl _)⟩)))⟩
end
end Go.Ev

namespace Go.Ev
set_option linter.unusedVariables false
def UP (o:C3) (κ0:R) (κ:K4->R):R :=
 @Option.rec Ob (fun _=>R) κ0 (fun o=>@Ob.rec (fun _=>R) (fun _ _ _=>κ0) (fun _ _ _=>κ0) (fun q _ _ _=>κ q) κ0 (fun _ _=>κ0) o) o
def N1:C3->Option K4
 | some (.it q _ _ _)=>some q
 | _=>none
theorem Ta (o:C3) (κ0:R) (κ:K4->R):UP o κ0 κ=match N1 o with | some q=>κ q | none=>κ0:=by
 cases o with
 | none=>rfl
 | some o=>cases o <;> rfl
def Hf (m:Heap) (p:K4):Option K4:=N1 (AG p m)
def Q9 (m:Heap) (p:K4) (κ0:R) (κ:K4->R):R:=Bp p m fun o=>UP o κ0 κ
theorem ML {m:Heap} {p:K4} {κ0:R} {κ:K4->R}:Q9 m p κ0 κ=match Hf m p with | some q=>κ q | none=>κ0:=by
 unfold Q9 Hf
 rw [Bz,Ta]
def TG:Ot->V
 | .yl _=>.oth .any
 | o=>.oth o
mutual
def Fa (m:Heap):V->V
 | .int k r=>.int k r
 | .bool b=>.bool b
 | .ptr p off=>match Hf m p with | some q=>.ptr q off | none=>.oth .any
 | .sl p off len cap ex esz=>match Hf m p with | some q=>.sl q off len cap ex esz | none=>.oth .any
 | .str n c=>.str n c
 | .agg l=>.agg (It m l)
 | .nil w=>.nil w
 | .map p=>match Hf m p with | some q=>.map q | none=>.oth .any
 | .fn f l=>.fn f (It m l)
 | .tup l=>.tup (It m l)
 | .oth o=>TG o
def It (m:Heap):List V->List V
 | []=>[]
 | v::l=>Fa m v::It m l
end
def Uv (o:Ot) (κ:V->R):R :=
 @Ot.rec (fun _=>R) (κ (.oth o)) (fun _=>κ (.oth o)) (fun _=>κ (.oth .any)) (κ (.oth o)) (fun _ _ _=>κ (.oth o)) (fun _ _=>κ (.oth o)) (κ (.oth o)) (fun _ _=>κ (.oth o)) (fun _ _ _ _=>κ (.oth o)) (fun _ _ _ _=>κ (.oth o)) (fun _ _ _=>κ (.oth o)) (fun _ _=>κ (.oth o)) o
theorem Ui (o:Ot) (κ:V->R):Uv o κ=κ (TG o):=by cases o <;> rfl
def QB (m:Heap) (v:V):(V->R)->R :=
 @V.rec (fun _=>(V->R)->R) (fun _=>(List V->R)->R)
 (fun k r κ=>κ (.int k r)) (fun b κ=>κ (.bool b)) (fun p off κ=>Q9 m p (κ (.oth .any)) fun q=>κ (.ptr q off)) (fun p off len cap ex esz κ=>Q9 m p (κ (.oth .any)) fun q=>κ (.sl q off len cap ex esz)) (fun n c κ=>κ (.str n c)) (fun _ ih κ=>ih fun l=>κ (.agg l)) (fun w κ=>κ (.nil w)) (fun p κ=>Q9 m p (κ (.oth .any)) fun q=>κ (.map q)) (fun f _ ih κ=>ih fun l=>κ (.fn f l)) (fun _ ih κ=>ih fun l=>κ (.tup l)) (fun o κ=>Uv o κ)
 (fun κ=>κ []) (fun _ _ ihx ihl κ=>ihx fun x=>ihl fun l=>κ (x::l)) v
def V4 (m:Heap) (l:List V):(List V->R)->R :=
 @V.rec_1 (fun _=>(V->R)->R) (fun _=>(List V->R)->R)
 (fun k r κ=>κ (.int k r)) (fun b κ=>κ (.bool b)) (fun p off κ=>Q9 m p (κ (.oth .any)) fun q=>κ (.ptr q off)) (fun p off len cap ex esz κ=>Q9 m p (κ (.oth .any)) fun q=>κ (.sl q off len cap ex esz)) (fun n c κ=>κ (.str n c)) (fun _ ih κ=>ih fun l=>κ (.agg l)) (fun w κ=>κ (.nil w)) (fun p κ=>Q9 m p (κ (.oth .any)) fun q=>κ (.map q)) (fun f _ ih κ=>ih fun l=>κ (.fn f l)) (fun _ ih κ=>ih fun l=>κ (.tup l)) (fun o κ=>Uv o κ)
 (fun κ=>κ []) (fun _ _ ihx ihl κ=>ihx fun x=>ihl fun l=>κ (x::l)) l
mutual
theorem Hj (m:Heap):∀ (v:V) (κ:V->R),QB m v κ=κ (Fa m v)
 | .int _ _,κ=>by simp only [Fa]; rfl
 | .bool _,κ=>by simp only [Fa]; rfl
 | .ptr p off,κ=>by
  show Q9 m p _ _=_
  rw [ML]; simp only [Fa]
  cases Hf m p <;> rfl
 | .sl p _ _ _ _ _,κ=>by
  show Q9 m p _ _=_
  rw [ML]; simp only [Fa]
  cases Hf m p <;> rfl
 | .str _ _,κ=>by simp only [Fa]; rfl
 | .agg l,κ=>by
  show V4 m l (fun l=>κ (.agg l))=_
  rw [Ke m l]; simp only [Fa]
 | .nil _,κ=>by simp only [Fa]; rfl
 | .map p,κ=>by
  show Q9 m p _ _=_
  rw [ML]; simp only [Fa]
  cases Hf m p <;> rfl
 | .fn f l,κ=>by
  show V4 m l (fun l=>κ (.fn f l))=_
  rw [Ke m l]; simp only [Fa]
 | .tup l,κ=>by
  show V4 m l (fun l=>κ (.tup l))=_
  rw [Ke m l]; simp only [Fa]
 | .oth o,κ=>by
  show Uv o κ=_
  rw [Ui]; simp only [Fa]
theorem Ke (m:Heap):∀ (l:List V) (κ:List V->R),V4 m l κ=κ (It m l)
 | [],κ=>by simp only [It]; rfl
 | v::l,κ=>by
  show QB m v (fun x=>V4 m l fun l=>κ (x::l))=_
  rw [Hj m v,Ke m l]; simp only [It]
end
theorem O6 (m:Heap):∀ l,It m l=l.map (Fa m)
 | []=>by simp [It]
 | v::l=>by simp only [It,List.map_cons]; rw [O6 m l]
section
variable {ρ:Env} {φ φ':AY} {m:Heap}
mutual
theorem Kb (hφ:∀ p q x,Hf m p=some q->φ p=some x->φ' q=some x):∀ {v:V} {x:Value},AD ρ φ v x->AD ρ φ' (Fa m v) x
 | .int _ _,_,r=>by simp only [Fa]; simpa only [AD] using r
 | .bool _,_,r=>by simp only [Fa]; simpa only [AD] using r
 | .ptr p _,_,r=>by
  simp only [Fa]
  simp only [AD] at r
  obtain ⟨b,s,tot,hp,e⟩:=r
  cases hm:Hf m p with
  | none=>simp only [AD]
  | some q=>simp only [AD]; exact ⟨b,s,tot,hφ _ _ _ hm hp,e⟩
 | .sl p _ _ _ _ _,_,r=>by
  simp only [Fa]
  simp only [AD] at r
  obtain ⟨b,s,tot,o,c,hp,e⟩:=r
  cases hm:Hf m p with
  | none=>simp only [AD]
  | some q=>simp only [AD]; exact ⟨b,s,tot,o,c,hφ _ _ _ hm hp,e⟩
 | .str _ _,_,r=>by simp only [Fa]; simpa only [AD] using r
 | .agg l,_,r=>by
  simp only [Fa]
  simp only [AD] at r ⊢
  obtain ⟨cs,e,hl,hh⟩:=r
  exact ⟨cs,e,Jq hφ hl,hh⟩
 | .nil _,_,r=>by simp only [Fa]; simpa only [AD] using r
 | .map p,_,r=>by
  simp only [Fa]
  simp only [AD] at r
  obtain ⟨b,s,tot,hp,e⟩:=r
  cases hm:Hf m p with
  | none=>simp only [AD]
  | some q=>simp only [AD]; exact ⟨b,s,tot,hφ _ _ _ hm hp,e⟩
 | .fn _ l,_,r=>by
  simp only [Fa]
  simp only [AD] at r ⊢
  obtain ⟨cs,e,hl⟩:=r
  exact ⟨cs,e,Jq hφ hl⟩
 | .tup l,_,r=>by
  simp only [Fa]
  simp only [AD] at r ⊢
  obtain ⟨cs,e,hl⟩:=r
  exact ⟨cs,e,Jq hφ hl⟩
 | .oth o,_,r=>by
  simp only [Fa]
  cases o <;> simp only [TG,AD] at r ⊢ <;> exact r
theorem Jq (hφ:∀ p q x,Hf m p=some q->φ p=some x->φ' q=some x):∀ {l:List V} {xs:List Value},Bo ρ φ l xs->Bo ρ φ' (It m l) xs
 | [],_,r=>by simp only [It]; simpa only [Bo] using r
 | v::l,_,r=>by
  simp only [It]
  simp only [Bo] at r ⊢
  obtain ⟨y,ys,e,hy,hys⟩:=r
  exact ⟨y,ys,e,Kb hφ hy,Jq hφ hys⟩
end
end
def XV (m:Heap) (es:List (V×V)):(List (V×V)->R)->R :=
 @List.rec (V×V) (fun _=>(List (V×V)->R)->R) (fun κ=>κ []) (fun e _ ih κ=>@Prod.rec V V (fun _=>R) (fun x y=>QB m x fun x=>QB m y fun y=>ih fun l=>κ ((x,y)::l)) e) es
theorem SO (m:Heap):∀ (es:List (V×V)) (κ:List (V×V)->R),XV m es κ=κ (es.map fun e=>(Fa m e.1,Fa m e.2))
 | [],κ=>rfl
 | (x,y)::es,κ=>by
  show QB m x (fun x=>QB m y fun y=>XV m es fun l=>κ ((x,y)::l))=_
  rw [Hj,Hj,SO m es]; rfl
def S9 (m:Heap) (o:Ob) (κ0:R) (κ:Ob->R):R :=
 @Ob.rec (fun _=>R) (fun cs _ _=>@Cs.rec (fun _=>R) (fun xs=>V4 m xs fun xs=>κ (.c (.l xs) false none)) (fun n c=>κ (.c (.b n c) false none)) cs) (fun es bs clk=>XV m es fun es=>κ (.m es bs clk)) (fun _ _ _ _=>κ0) κ0 (fun _ _=>κ0) o
def Rk (m:Heap):Ob->Option Ob
 | .c (.l xs) _ _=>some (.c (.l (xs.map (Fa m))) false none)
 | .c (.b n c) _ _=>some (.c (.b n c) false none)
 | .m es bs clk=>some (.m (es.map fun e=>(Fa m e.1,Fa m e.2)) bs clk)
 | _=>none
theorem Uy (m:Heap) (o:Ob) (κ0:R) (κ:Ob->R):S9 m o κ0 κ=match Rk m o with | some o=>κ o | none=>κ0:=by
 cases o with
 | c cs sup prev =>
  cases cs with
  | l xs =>
   show V4 m xs _=_
   rw [Ke,O6]; rfl
  | b n c=>rfl
 | m es bs clk =>
  show XV m es _=_
  rw [SO]; rfl
 | it _ _ _ _=>rfl
 | it0=>rfl
 | lp _ _=>rfl
section
variable {ρ:Env} {φ φ':AY} {m:Heap} {w:World}
theorem TF (hφ:∀ p q x,Hf m p=some q->φ p=some x->φ' q=some x) {es:List (V×V)}:∀ {l:List MapEntry},FM ρ φ es l->FM ρ φ' (es.map fun e=>(Fa m e.1,Fa m e.2)) l:=by
 induction es with
 | nil=>exact fun h=>h
 | cons e es ih=>rintro l ⟨y,ys,rfl,h1,h2,h3⟩; exact ⟨y,ys,rfl,Kb hφ h1,Kb hφ h2,ih h3⟩
theorem Uj (hφ:∀ p q x,Hf m p=some q->φ p=some x->φ' q=some x) {o o':Ob} {b s tot:Nat} (h:F4 ρ φ w o b s tot) (e:Rk m o=some o'):F4 ρ φ' w o' b s tot:=by
 cases o with
 | c cs sup prev =>
  cases cs with
  | l xs =>
   cases e
   obtain ⟨c,e,fr,h1,h2,h3,h4,h5⟩:=h
   refine ⟨c,e,fr,h1,h2,by simpa [Cs.len] using h3,h4,fun i v hv=>?_⟩
   have hv:(xs.map (Fa m))[i]? = some v:=hv
   rw [List.getElem?_map] at hv
   cases hx:xs[i]? with
   | none=>rw [hx] at hv; cases hv
   | some v0 =>
    rw [hx] at hv
    cases hv
    obtain ⟨x,k1,k2,k3⟩:=h5 i v0 hx
    exact ⟨x,k1,Kb hφ k2,k3⟩
  | b n c =>
   cases e
   obtain ⟨c',e,fr,h1,h2,h3,h4,h5⟩:=h
   refine ⟨c',e,fr,h1,h2,h3,h4,fun i v hv=>?_⟩
   obtain ⟨x,k1,k2,k3⟩:=h5 i v hv
   refine ⟨x,k1,?_,k3⟩
   have hv:(if i<n then some (V.int .u8 (c / 256 ^ i % 256)) else none)=some v:=hv
   split at hv
   ·cases hv; simpa only [AD] using k2
   ·cases hv
 | m es bs clk =>
  cases e
  obtain ⟨ents,h1,h2,h3⟩:=h
  exact ⟨ents,h1,TF hφ h2,h3⟩
 | it _ _ _ _=>cases e
 | it0=>cases e
 | lp _ _=>cases e
end
def Tb (acc:List K4):Heap->K4->(Heap->K4->R)->R :=
 @List.rec K4 (fun _=>Heap->K4->(Heap->K4->R)->R) (fun m q κ=>κ m q) (fun p _ ih m q κ=>BA p m (some (.it q 0 [] 0)) fun m=>q.nx fun q'=>ih m q' κ) acc
structure NumOK (m:Heap) (q:K4):Prop where
 lt:∀ p r,Hf m p=some r->r.toN<q.toN
 inj:∀ p p' r,Hf m p=some r->Hf m p'=some r->p=p'
theorem Qi {Φ:R->Prop}:∀ {acc:List K4} {m:Heap} {q:K4} {κ:Heap->K4->R},NumOK m q->(Tb acc m q κ).sat Φ->∃ m' q',NumOK m' q'∧(κ m' q').sat Φ
 | [],m,q,κ,ok,h=>⟨m,q,ok,h⟩
 | p::acc,m,q,κ,ok,h=>by
  have h:(BA p m (some (.it q 0 [] 0)) fun m=>q.nx fun q'=>Tb acc m q' κ).sat Φ:=h
  rw [BJ,Bx] at h
  rcases K4.nx_eq q (fun q'=>Tb acc (B0 p m (some (.it q 0 [] 0))) q' κ) with ⟨w,e⟩ | ⟨q',hq,e⟩
  ·rw [e] at h; exact h.elim
  rw [e] at h
  refine Qi ⟨fun p' r hr=>?_,fun p1 p2 r h1 h2=>?_⟩ h
  ·unfold Hf at hr
   by_cases e:p=p'
   ·subst e; rw [AA] at hr; cases hr; omega
   ·rw [An _ _ e] at hr; have:=ok.lt p' r hr; omega
  ·unfold Hf at h1 h2
   by_cases e1:p=p1
   ·by_cases e2:p=p2
    ·rw [←e1,←e2]
    ·subst e1
     rw [AA] at h1
     rw [An _ _ e2] at h2
     cases h1
     have:=ok.lt p2 q h2; omega
   ·rw [An _ _ e1] at h1
    by_cases e2:p=p2
    ·subst e2
     rw [AA] at h2
     cases h2
     have:=ok.lt p1 q h1; omega
    ·rw [An _ _ e2] at h2
     exact ok.inj p1 p2 r h1 h2
def HW (hs m:Heap) (acc:List K4):Heap->(Heap->R)->R :=
 @List.rec K4 (fun _=>Heap->(Heap->R)->R) (fun h κ=>κ h)
  (fun p _ ih h κ=>Bp p hs fun o=>@Option.rec Ob (fun _=>R) (ih h κ) (fun ob=>Q9 m p (ih h κ) fun q=>S9 m ob (ih h κ) fun ob=>BA q h (some ob) fun h=>ih h κ) o) acc
def NO (hs m h:Heap):Prop:=∀ q o',AG q h=some o'->∃ p o,Hf m p=some q∧AG p hs=some o∧Rk m o=some o'
theorem HG {hs m:Heap}:∀ {acc:List K4} {h:Heap} {κ:Heap->R},NO hs m h->∃ h',NO hs m h'∧HW hs m acc h κ=κ h'
 | [],h,κ,ok=>⟨h,ok,rfl⟩
 | p::acc,h,κ,ok=>by
  have e:HW hs m (p::acc) h κ=Bp p hs fun o=>@Option.rec Ob (fun _=>R) (HW hs m acc h κ) (fun ob=>Q9 m p (HW hs m acc h κ) fun q=>S9 m ob (HW hs m acc h κ) fun ob=>BA q h (some ob) fun h=>HW hs m acc h κ) o:=rfl
  rw [e,Bz]
  cases h1:AG p hs with
  | none=>exact HG ok
  | some ob =>
   show ∃ h',NO hs m h'∧(Q9 m p (HW hs m acc h κ) fun q=>S9 m ob (HW hs m acc h κ) fun ob=>BA q h (some ob) fun h=>HW hs m acc h κ)=κ h'
   rw [ML]
   cases h2:Hf m p with
   | none=>exact HG ok
   | some q =>
    show ∃ h',NO hs m h'∧(S9 m ob (HW hs m acc h κ) fun ob=>BA q h (some ob) fun h=>HW hs m acc h κ)=κ h'
    rw [Uy]
    cases h3:Rk m ob with
    | none=>exact HG ok
    | some ob' =>
     show ∃ h',NO hs m h'∧(BA q h (some ob') fun h=>HW hs m acc h κ)=κ h'
     rw [BJ,Bx]
     refine HG fun q' o' hq=>?_
     rcases Bu hq with ⟨rfl,e⟩ | ⟨hne,hq⟩
     ·cases e; exact ⟨p,ob,h2,h1,h3⟩
     ·exact ok q' o' hq
def Tv (y a:V) (κ:V->R):R:=Ao y (κ a) (κ (.oth .any))
def Ol (y x:SQ) (κ:SQ->R):R :=
 @SQ.rec (fun _=>R) (fun y0 y1 y2 y3=>@SQ.rec (fun _=>R) (fun a b c d=>Tv y0 a fun a=>Tv y1 b fun b=>Tv y2 c fun c=>Tv y3 d fun d=>κ (.mk a b c d)) x) y
def mkT (y x:S) (κ:S->R):R :=
 @S.rec (fun _=>R) (fun y0 y1 y2 y3 y4 y5 y6 y7=>@S.rec (fun _=>R) (fun a0 a1 a2 a3 a4 a5 a6 a7=>Ol y0 a0 fun a0=>Ol y1 a1 fun a1=>Ol y2 a2 fun a2=>Ol y3 a3 fun a3=>Ol y4 a4 fun a4=>Ol y5 a5 fun a5=>Ol y6 a6 fun a6=>Ol y7 a7 fun a7=>κ (.mk a0 a1 a2 a3 a4 a5 a6 a7)) x) y
def ZJ (a b:V):Prop:=b=a∨b = .oth .any
theorem MX {y a:V} {κ:V->R} {Φ:R->Prop} (h:(Tv y a κ).sat Φ):∃ b,ZJ a b∧(κ b).sat Φ:=by
 unfold Tv at h
 cases y with
 | bool q =>
  cases q with
  | true=>exact ⟨a,.inl rfl,h⟩
  | false=>exact ⟨_,.inr rfl,h⟩
 | oth o=>cases o with
  | bl=>exact ⟨a,.inl rfl,(show (R.both (κ a) (κ (.oth .any))).sat Φ from h).1⟩
  | _=>exact (show False from h).elim
 | _=>exact (show False from h).elim
def YY (a b:SQ):Prop:=∀ d,ZJ (SQ.sel d a) (SQ.sel d b)
theorem Gx {y x:SQ} {κ:SQ->R} {Φ:R->Prop} (h:(Ol y x κ).sat Φ):∃ b,YY x b∧(κ b).sat Φ:=by
 obtain ⟨y0,y1,y2,y3⟩:=y
 obtain ⟨a,b,c,d⟩:=x
 have h:(Tv y0 a fun a=>Tv y1 b fun b=>Tv y2 c fun c=>Tv y3 d fun d=>κ (.mk a b c d)).sat Φ:=h
 obtain ⟨a',ha,h⟩:=MX h
 obtain ⟨b',hb,h⟩:=MX h
 obtain ⟨c',hc,h⟩:=MX h
 obtain ⟨d',hd,h⟩:=MX h
 exact ⟨_,fun d=>by cases d <;> assumption,h⟩
def Zb (a b:S):Prop:=∀ s:SL,ZJ (S.get s a) (S.get s b)
theorem Vv {y x:S} {κ:S->R} {Φ:R->Prop} (h:(mkT y x κ).sat Φ):∃ b,Zb x b∧(κ b).sat Φ:=by
 obtain ⟨y0,y1,y2,y3,y4,y5,y6,y7⟩:=y
 obtain ⟨a0,a1,a2,a3,a4,a5,a6,a7⟩:=x
 have h:(Ol y0 a0 fun a0=>Ol y1 a1 fun a1=>Ol y2 a2 fun a2=>Ol y3 a3 fun a3=>Ol y4 a4 fun a4=>Ol y5 a5 fun a5=>Ol y6 a6 fun a6=>Ol y7 a7 fun a7=>κ (.mk a0 a1 a2 a3 a4 a5 a6 a7)).sat Φ:=h
 obtain ⟨b0,h0,h⟩:=Gx h
 obtain ⟨b1,h1,h⟩:=Gx h
 obtain ⟨b2,h2,h⟩:=Gx h
 obtain ⟨b3,h3,h⟩:=Gx h
 obtain ⟨b4,h4,h⟩:=Gx h
 obtain ⟨b5,h5,h⟩:=Gx h
 obtain ⟨b6,h6,h⟩:=Gx h
 obtain ⟨b7,h7,h⟩:=Gx h
 refine ⟨_,fun s=>?_,h⟩
 obtain ⟨a,b⟩:=s
 cases a
 ·exact h0 b
 ·exact h1 b
 ·exact h2 b
 ·exact h3 b
 ·exact h4 b
 ·exact h5 b
 ·exact h6 b
 ·exact h7 b
def EN (m:Heap) (x:SQ) (κ:SQ->R):R :=
 @SQ.rec (fun _=>R) (fun a b c d=>QB m a fun a=>QB m b fun b=>QB m c fun c=>QB m d fun d=>κ (.mk a b c d)) x
def W6 (m:Heap) (x:S) (κ:S->R):R :=
 @S.rec (fun _=>R) (fun a0 a1 a2 a3 a4 a5 a6 a7=>EN m a0 fun a0=>EN m a1 fun a1=>EN m a2 fun a2=>EN m a3 fun a3=>EN m a4 fun a4=>EN m a5 fun a5=>EN m a6 fun a6=>EN m a7 fun a7=>κ (.mk a0 a1 a2 a3 a4 a5 a6 a7)) x
theorem G4 {m:Heap} {x:SQ} {κ:SQ->R}:∃ y,(∀ d,SQ.sel d y=Fa m (SQ.sel d x))∧EN m x κ=κ y:=by
 obtain ⟨a,b,c,d⟩:=x
 refine ⟨.mk (Fa m a) (Fa m b) (Fa m c) (Fa m d),fun d=>by cases d <;> rfl,?_⟩
 show (QB m a fun a=>QB m b fun b=>QB m c fun c=>QB m d fun d=>κ (.mk a b c d))=_
 rw [Hj,Hj,Hj,Hj]
theorem Vx {m:Heap} {x:S} {κ:S->R}:∃ y,(∀ s:SL,S.get s y=Fa m (S.get s x))∧W6 m x κ=κ y:=by
 obtain ⟨a0,a1,a2,a3,a4,a5,a6,a7⟩:=x
 have e:W6 m (.mk a0 a1 a2 a3 a4 a5 a6 a7) κ=EN m a0 fun a0=>EN m a1 fun a1=>EN m a2 fun a2=>EN m a3 fun a3=>EN m a4 fun a4=>EN m a5 fun a5=>EN m a6 fun a6=>EN m a7 fun a7=>κ (.mk a0 a1 a2 a3 a4 a5 a6 a7):=rfl
 rw [e]
 obtain ⟨y0,h0,e⟩:=G4 (m:=m) (x:=a0) (κ:=fun a0=>EN m a1 fun a1=>EN m a2 fun a2=>EN m a3 fun a3=>EN m a4 fun a4=>EN m a5 fun a5=>EN m a6 fun a6=>EN m a7 fun a7=>κ (.mk a0 a1 a2 a3 a4 a5 a6 a7))
 rw [e]
 obtain ⟨y1,h1,e⟩:=G4 (m:=m) (x:=a1) (κ:=fun a1=>EN m a2 fun a2=>EN m a3 fun a3=>EN m a4 fun a4=>EN m a5 fun a5=>EN m a6 fun a6=>EN m a7 fun a7=>κ (.mk y0 a1 a2 a3 a4 a5 a6 a7))
 rw [e]
 obtain ⟨y2,h2,e⟩:=G4 (m:=m) (x:=a2) (κ:=fun a2=>EN m a3 fun a3=>EN m a4 fun a4=>EN m a5 fun a5=>EN m a6 fun a6=>EN m a7 fun a7=>κ (.mk y0 y1 a2 a3 a4 a5 a6 a7))
 rw [e]
 obtain ⟨y3,h3,e⟩:=G4 (m:=m) (x:=a3) (κ:=fun a3=>EN m a4 fun a4=>EN m a5 fun a5=>EN m a6 fun a6=>EN m a7 fun a7=>κ (.mk y0 y1 y2 a3 a4 a5 a6 a7))
 rw [e]
 obtain ⟨y4,h4,e⟩:=G4 (m:=m) (x:=a4) (κ:=fun a4=>EN m a5 fun a5=>EN m a6 fun a6=>EN m a7 fun a7=>κ (.mk y0 y1 y2 y3 a4 a5 a6 a7))
 rw [e]
 obtain ⟨y5,h5,e⟩:=G4 (m:=m) (x:=a5) (κ:=fun a5=>EN m a6 fun a6=>EN m a7 fun a7=>κ (.mk y0 y1 y2 y3 y4 a5 a6 a7))
 rw [e]
 obtain ⟨y6,h6,e⟩:=G4 (m:=m) (x:=a6) (κ:=fun a6=>EN m a7 fun a7=>κ (.mk y0 y1 y2 y3 y4 y5 a6 a7))
 rw [e]
 obtain ⟨y7,h7,e⟩:=G4 (m:=m) (x:=a7) (κ:=fun a7=>κ (.mk y0 y1 y2 y3 y4 y5 y6 a7))
 rw [e]
 refine ⟨_,fun s=>?_,rfl⟩
 obtain ⟨a,b⟩:=s
 cases a
 ·exact h0 b
 ·exact h1 b
 ·exact h2 b
 ·exact h3 b
 ·exact h4 b
 ·exact h5 b
 ·exact h6 b
 ·exact h7 b
def Uz (x:SQ) (l:List V):List V:=@SQ.rec (fun _=>List V) (fun a b c d=>a::b::c::d::l) x
def lsT (x:S):List V:=@S.rec (fun _=>List V) (fun a0 a1 a2 a3 a4 a5 a6 a7=>Uz a0 (Uz a1 (Uz a2 (Uz a3 (Uz a4 (Uz a5 (Uz a6 (Uz a7 [])))))))) x
def Va (k:Nat) (y t:S) (h:Heap) (κ:S->Heap->K4->R):R :=
 mkT y t fun t=>Dp h k (Sl (lsT t) []) AL [] fun hs acc=>Tb acc AL IL fun m n=>HW hs m acc AL fun h'=>W6 m t fun t=>κ t h' n
theorem Uf {ρ:Env} {B:Nat} {h hs:Heap} {acc:List K4} {n:K4} {φ:AY} {w:World} (sub:Sub h hs acc) (g:Gam ρ B h n φ w):Gam ρ B hs n φ w:=by
 have no:∀ (ob:Ob),Gc ob=true->HU ob=true->False:=fun ob h1 h2=>by
  cases ob with
  | c cs sup prev =>
   cases sup with
   | true=>cases h1
   | false=>cases h2
  | _=>cases h2
 refine ⟨g.base,g.dom,g.blk,fun p o b s tot hp hx=>?_,fun p q o o' b s tot s' tot' hne hp hq hx hy=>?_,fun p q o o' b s tot s' tot' hp hpr hq hx hy=>?_,g.glob⟩
 ·obtain ⟨o0,e0,rfl,_⟩:=sub.sub p o hp
  exact Q8 (g.obj p o0 b s tot e0 hx)
 ·exfalso
  obtain ⟨o0,e0,_,g0,_⟩:=sub.sub p o hp
  obtain ⟨o1,e1,_,g1,_⟩:=sub.sub q o' hq
  rcases g.sep p q o0 o1 b s tot s' tot' hne e0 e1 hx hy with hh | hh
  ·exact no o1 g1 (g.sup p q o0 o1 b s tot s' tot' e0 hh e1 hx hy)
  ·exact no o0 g0 (g.sup q p o1 o0 b s' tot' s tot e1 hh e0 hy hx)
 ·obtain ⟨o0,e0,rfl,_⟩:=sub.sub p o hp
  rw [GM] at hpr; cases hpr
theorem VH {k:Nat} {y t:S} {h:Heap} {κ:S->Heap->K4->R} {Φ:R->Prop} (hs:(Va k y t h κ).sat Φ):∃ t2 h2 n2,(κ t2 h2 n2).sat Φ ∧
  ∀ (ρ:Env) (B:Nat) (n:K4) (φ:AY) (w:World),Gam ρ B h n φ w->∃ φ2,Gam ρ B h2 n2 φ2 w ∧ ∀ (s:SL) (x:Value),AD ρ φ (S.get s t) x->AD ρ φ2 (S.get s t2) x:=by
 unfold Va at hs
 obtain ⟨t1,hd,hs⟩:=Vv hs
 obtain ⟨hh,acc,sub,e1⟩:=Em k (todo:=Sl (lsT t1) []) (κ:=fun hs acc=>Tb acc AL IL fun m n=>HW hs m acc AL fun h'=>W6 m t1 fun t=>κ t h' n) (Sub.nil (h:=h))
 rw [e1] at hs
 obtain ⟨m,q,num,hs⟩:=Qi (q:=IL) ⟨fun p r hr=>by simp [Hf,Co,N1] at hr,fun p p' r hr=>by simp [Hf,Co,N1] at hr⟩ hs
 obtain ⟨h',bld,e2⟩:=HG (hs:=hh) (m:=m) (acc:=acc) (h:=AL) (κ:=fun h'=>W6 m t1 fun t=>κ t h' q) (fun q o hq=>by rw [Co] at hq; cases hq)
 rw [e2] at hs
 obtain ⟨t2,ht2,e3⟩:=Vx (m:=m) (x:=t1) (κ:=fun t=>κ t h' q)
 rw [e3] at hs
 refine ⟨t2,h',q,hs,fun ρ B n φ w g=>?_⟩
 have g1:=Uf sub g
 classical
 let φ2:AY:=fun q=>if hq:∃ p,Hf m p=some q then φ hq.choose else none
 have hφ:∀ p q x,Hf m p=some q->φ p=some x->φ2 q=some x:=fun p q x hm hp=>by
  have hq:∃ p,Hf m p=some q:=⟨p,hm⟩
  show (if hq:∃ p,Hf m p=some q then φ hq.choose else none)=_
  rw [dif_pos hq,num.inj _ _ _ hq.choose_spec hm]; exact hp
 have hinv:∀ q x,φ2 q=some x->∃ p,Hf m p=some q∧φ p=some x:=fun q x hx=>by
  have hx:(if hq:∃ p,Hf m p=some q then φ hq.choose else none)=some x:=hx
  split at hx
  ·rename_i hq; exact ⟨_,hq.choose_spec,hx⟩
  ·cases hx
 have hat:∀ q o' x,AG q h'=some o'->φ2 q=some x->∃ p o,Hf m p=some q∧φ p=some x∧AG p hh=some o∧Rk m o=some o':=fun q o' x hq hx=>by
  obtain ⟨p,o,h1,h2,h3⟩:=bld q o' hq
  obtain ⟨p',h1',hp'⟩:=hinv q x hx
  obtain rfl:=num.inj _ _ _ h1 h1'
  exact ⟨p,o,h1,hp',h2,h3⟩
 have hpv:∀ o o':Ob,Rk m o=some o'->BK o'=none:=fun o o' e=>by
  cases o with
  | c cs _ _=>cases cs <;> (cases e; rfl)
  | m _ _ _=>cases e; rfl
  | it _ _ _ _=>cases e
  | it0=>cases e
  | lp _ _=>cases e
 refine ⟨φ2,⟨g1.base,fun q x hx=>?_,fun q b s tot hx=>?_,fun q o b s tot hq hx=>?_,fun q q' o o' b s tot s' tot' hne hq hq' hx hy=>?_,fun q q' o o' b s tot s' tot' hq hpr _ _ _=>?_,g1.glob⟩,fun s x hr=>?_⟩
 ·obtain ⟨p,h1,_⟩:=hinv q x hx
  exact num.lt p q h1
 ·obtain ⟨p,_,h2⟩:=hinv q _ hx
  exact g1.blk p b s tot h2
 ·obtain ⟨p,o0,_,h2,h3,h4⟩:=hat q o _ hq hx
  exact Uj hφ (g1.obj p o0 b s tot h3 h2) h4
 ·exfalso
  obtain ⟨p,o0,a1,a2,a3,a4⟩:=hat q o _ hq hx
  obtain ⟨p',o1,b1,b2,b3,b4⟩:=hat q' o' _ hq' hy
  have hpp:p≠p':=fun e=>by subst e; rw [a1] at b1; exact hne (Option.some.inj b1)
  obtain ⟨c0,k0,rfl,_⟩:=sub.sub p o0 a3
  obtain ⟨c1,k1,rfl,_⟩:=sub.sub p' o1 b3
  rcases g1.sep p p' _ _ b s tot s' tot' hpp a3 b3 a2 b2 with hh | hh
  ·rw [GM] at hh; cases hh
  ·rw [GM] at hh; cases hh
 ·obtain ⟨p,o0,_,_,hb⟩:=bld q o hq
  rw [hpv o0 o hb] at hpr; cases hpr
 ·rw [ht2]
  rcases hd s with e | e
  ·rw [e]; exact Kb hφ hr
  ·rw [e]
   have:Fa m (.oth .any) = .oth .any:=by simp only [Fa,TG]
   rw [this]; simp only [AD]
end Go.Ev

namespace Go.Ev
set_option linter.unusedVariables false
abbrev Ii:=S->Heap->K4->(S->Heap->K4->R)->R
abbrev VK:Ii:=fun t h n κ=>κ t h n
abbrev XJ (k:Nat) (y:S):Ii:=fun t h _ κ=>Va k y t h κ
abbrev Ti (c:Ii) (z b:Nat):Ii:=@Bool.rec (fun _=>Ii) VK c (Nat.beq b z)
def VX (can:Ii) (body:S->Heap->K4->R) (k:Nat):S->Heap->K4->R :=
 @Nat.rec (fun _=>S->Heap->K4->R) (BU "") (fun _ ih t h n=>can t h n fun t h n=>AQ (body t h n) ih) k
def RX (can:Ii) (body:S->Heap->K4->R):S->Heap->K4->R:=VX can body 1000000000
abbrev Kd (c:AC):Nat:=@AC.rec (fun _=>Nat) 0 (fun _ _ x y=>Nat.add x y) (fun _=>0) (fun _ _=>0) (fun _ _ _ x y=>Nat.succ (Nat.add x y)) (fun _ _ x=>Nat.succ x) (fun _ x=>Nat.succ x) (fun _=>1) 1 (fun _=>0) (fun _ _ _ _=>1) c
abbrev GR (can:Nat->Ii) (sm:SM) (cf:FK) (c:AC):HP->HP :=
 @AC.rec (fun _=>HP->HP) (fun rest=>rest) (fun _ _ a b rest=>a (b rest)) (fun l rest env t h n=>CI sm cf l env t h n rest)
  (fun al l rest env t h n=>Pb al n fun b n=>D8 sm cf b l env t h h n fun env t _ h n=>rest env t h n)
  (fun c x y a b rest env t h n=>Bg sm env t c fun v=>LP x.ends y.ends v a b rest env t h n)
  (fun id _ b rest env t h n=>Ad id (b r0 env t h n) fun t h n=>rest [] t h n)
  (fun c b _ _ t h n=>RX (can (Kd c)) (fun t h n=>b r0 [] t h n) t h n) (fun id _ _ t h n=>.ok (.exit id) t h n) (fun _ _ t h n=>.ok .ret t h n) (Dm "")
  (fun pre sp d post rest env t h n=>CI sm cf pre env t h n fun env t h n=>UU cf sp (Bg sm env t) h n fun v h n=>CM sm d t v fun t=>CI sm cf post (BG d v env) t h n rest) c
abbrev Wz (can:Nat->Ii) (sm:SM) (a:AFn):Ent:=@AFn.rec (fun _=>Ent) (fun ps c rs=>.code (fun l κ=>IW ps l G8 fun t=>κ (U6 sm t)) (fun cf t h n=>GR can sm cf c r0 [] t h n) (fun t h n=>HK sm rs t h n)) a
abbrev UQ (can:Nat->Ii) (sm:SM) (o:Option AFn):D0:=@Option.rec AFn (fun _=>D0) none (fun a=>some (Wz can sm a)) o
def JN (can:Nat->Ii) (P:Program) (f:FuncId) (e:Ent):Prop:=∃ sm:SM,UQ can sm (FW P f)=some e∧XZ sm (FW P f)=true
theorem JN.mk {can:Nat->Ii} {P:Program} {f:FuncId} {e:Ent} (sm:SM) (h:UQ can sm (FW P f)=some e) (k:XZ sm (FW P f)=true):JN can P f e:=⟨sm,h,k⟩
def Eu (can:Ii):Prop:=∀ {t:S} {h:Heap} {n:K4} {κ:S->Heap->K4->R} {Φ:R->Prop},(can t h n κ).sat Φ->∀ (ρ:Env) (B:Nat) (φ:AY) (w:World) (A:SL->Value->Prop),
  (∀ s x y,A s x->A s y->x=y)->Gam ρ B h n φ w->(∀ s x,A s x->AD ρ φ (S.get s t) x)->∃ t2 h2 n2 φ2,(κ t2 h2 n2).sat Φ∧Gam ρ B h2 n2 φ2 w ∧ ∀ s x,A s x->AD ρ φ2 (S.get s t2) x
theorem TA (k:Nat) (y:S):Eu (XJ k y):=fun {t h n κ Φ} hs ρ B φ w A _ g hA=>by
 obtain ⟨t2,h2,n2,a,b⟩:=VH (κ:=κ) (Φ:=Φ) hs
 obtain ⟨φ2,g2,r2⟩:=b ρ B n φ w g
 exact ⟨t2,h2,n2,φ2,a,g2,fun s x hx=>r2 s x (hA s x hx)⟩
theorem TM:Eu VK:=fun {t h n κ Φ} hs ρ B φ w A _ g hA=>⟨t,h,n,φ,hs,g,hA⟩
theorem RA {c:Ii} (hc:Eu c) (z b:Nat):Eu (Ti c z b):=by
 show Eu (@Bool.rec (fun _=>Ii) VK c (Nat.beq b z))
 cases Nat.beq b z with
 | false=>exact TM
 | true=>exact hc
def N0 (sm:SM) (t:S):Regs:=sm.foldr (fun x r=>Dz x.1 r (S.get x.2 t)) (Regs.all (VP.all (.oth .any)))
theorem Ge {p:K2} {t:S}:∀ {sm:SM},Bc p (N0 sm t)=match BF p sm with | some s=>S.get s t | none=>.oth .any
 | []=>by simp only [N0,List.foldr_nil,Bc,Regs.sel_all,VP.sel_all,BF]
 | x::l=>by
  show Bc p (Dz x.1 (N0 l t) (S.get x.2 t))=_
  simp only [BF]
  cases hb:K2.beq x.1 p with
  | true =>
   rw [K2.beq_iff.1 hb,B7]; rfl
  | false =>
   rw [Bq _ _ (fun e=>by rw [K2.beq_iff.2 e] at hb; cases hb),Ge]; rfl
section
variable {P:Program} {ρ:Env} {B N:Nat} {cf:CF} {cf2:FK} {sm:SM} {can:Nat->Ii}
theorem Oj {h h1:Heap} {φ φ':AY} {n n1:K4} {w w':World} (g:Gam ρ B h n φ w) (f:Fr h h1 φ φ' n n1 w w'):Go.RowKit.Below B w w' :=
 ⟨f.os,f.tape,f.out,f.size,fun k hk=>f.old k (Nat.lt_of_lt_of_le hk g.base) fun p s t hp=>absurd (g.blk p k s t hp).1 (by omega)⟩
def LR:AC->Bool
 | .ops _=>true
 | .drawn _ _=>true
 | .spl _ _ _ _=>true
 | .bad _=>true
 | _=>false
theorem Ri:∀ {a:AC},LR a=true->GR can sm cf2 a=Gy sm cf2 a:=fun {a} h=>by
 cases a <;> first | rfl | cases h
def Qs (P:Program) (ρ:Env) (B N:Nat) (sm:SM) (C:Code) (t:Regs) (h:Heap) (n:K4) (Φ:R->Prop):Prop :=
 ∀ φ a w,TR ρ N φ t a->Gam ρ B h n φ w->∀ (Q:Exit->Act->World->Prop),
  (∀ e t1 h1 n1,Φ (.ok e t1 h1 n1)->∀ φ' a' w' tf,Go.RowKit.Below B w w'->Gam ρ B h1 n1 φ' w'->TR ρ N φ' tf a'->(∀ p s,BF p sm=some s->S.get s t1=Bc p tf)->Q (Iq e) a' w')->C.wp P Q a w
def Pm (P:Program) (ρ:Env) (B N:Nat) (sm:SM) (can:Nat->Ii) (cf2:FK) (C:Code):Prop :=
 ∀ (rest:HP) (rOk:List K2->Bool) (dom:List K2) (env:Ren) (t:Regs) (t':S) (h:Heap) (n:K4) (Φ:R->Prop),
  EU sm (AH P N C) rOk dom=true->RI sm dom env t t'->(GR can sm cf2 (AH P N C) rest env t' h n).sat Φ →
  ∀ φ a w,TR ρ N φ t a->Gam ρ B h n φ w->∀ (Q:Exit->Act->World->Prop),
   (∀ e t1 h1 n1,Φ (.ok e t1 h1 n1)->e ≠ .nrm->∀ φ' a' w' tf,Go.RowKit.Below B w w'->Gam ρ B h1 n1 φ' w'->TR ρ N φ' tf a'->(∀ p s,BF p sm=some s->S.get s t1=Bc p tf)->Q (Iq e) a' w') →
   ((AH P N C).ends=false->∀ dom2 env2 t2 t2' h2 n2,rOk dom2=true->RI sm dom2 env2 t2 t2'->(rest env2 t2' h2 n2).sat Φ->∀ φ2 a2 w2,Go.RowKit.Below B w w2->Gam ρ B h2 n2 φ2 w2->TR ρ N φ2 t2 a2->Q .normal a2 w2) →
   C.wp P Q a w
theorem Pm.join {C:Code} (H:Pm P ρ B N sm can cf2 C) {dom:List K2} {env:Ren} {t:Regs} {t':S} {h:Heap} {n:K4} {Φ:R->Prop} (hok:EU sm (AH P N C) (fun _=>true) dom=true) (ri:RI sm dom env t t')
  (hx:(GR can sm cf2 (AH P N C) r0 env t' h n).sat Φ):Qs P ρ B N sm C t h n Φ:=by
 intro φ a w hT g Q hQ
 refine H r0 _ dom env t t' h n Φ hok ri hx φ a w hT g Q (fun e t1 h1 n1 hΦ _ φ' a' w' tf f1 g1 T1 hk=>hQ e t1 h1 n1 hΦ φ' a' w' tf f1 g1 T1 hk) fun _ dom2 env2 t2 t2' h2 n2 _ ri2 hr φ2 a2 w2 f2 g2 T2=>?_
 have hr:Φ (R.ok .nrm t2' h2 n2):=hr
 exact hQ _ _ _ _ hr φ2 a2 w2 t2 f2 g2 T2 ri2.keep
theorem HI {ops:Array Oper} {d:Bool}:LR (BS P N ops d)=true:=by
 unfold BS
 cases Gl P N ops ops.toList with
 | none=>rfl
 | some os =>
  cases d with
  | false=>rfl
  | true =>
   show LR (if (BP (ops.toList.map Ci) os).ok then AC.drawn ((BP (ops.toList.map Ci) os).sk.any SI.isAl) ((BP (ops.toList.map Ci) os).sk.map (JJ os)) else .bad "a region of it order")=true
   split <;> rfl
theorem NT {id:Nat} {ops:Array Oper} {draw:Bool}:LR (AH P N (.region id ops draw))=true:=by
 show LR (N6 P N ops draw)=true
 unfold N6
 cases draw with
 | true=>exact HI
 | false =>
  show LR (match L6 P N ops ops.toList with | some r=>.spl r.1 r.2.1 r.2.2.1 r.2.2.2 | none=>BS P N ops false)=true
  cases L6 P N ops ops.toList with
  | none=>exact HI
  | some r=>rfl
theorem Um (hcan:∀ b,Eu (can b)) (hρ:Bh ρ) (hm:P.follows .mixedOrders=true) (hct:G6 P ρ B cf) (hR:FH P ρ B cf) (h2:∀ f,cf2 (Bb f)=cf f):∀ C:Code,Pm P ρ B N sm can cf2 C:=by
 have hcf:=hct.ok
 intro C
 induction C with
 | skip=>intro rest rOk dom env t t' h n Φ hok ri hx φ a w hT g Q hex hre; exact wp_skip (hre rfl dom env t t' h n hok ri hx φ a w (Go.RowKit.Below.refl _ w) g hT)
 | label l=>intro rest rOk dom env t t' h n Φ hok ri hx φ a w hT g Q hex hre; exact wp_label (hre rfl dom env t t' h n hok ri hx φ a w (Go.RowKit.Below.refl _ w) g hT)
 | exit id =>
  intro rest rOk dom env t t' h n Φ hok ri hx φ a w hT g Q hex hre
  exact wp_exit (hex _ _ _ _ hx (fun h=>by cases h) φ a w t (Go.RowKit.Below.refl _ w) g hT ri.keep)
 | ret =>
  intro rest rOk dom env t t' h n Φ hok ri hx φ a w hT g Q hex hre
  exact wp_ret (hex _ _ _ _ hx (fun h=>by cases h) φ a w t (Go.RowKit.Below.refl _ w) g hT ri.keep)
 | region id ops draw =>
  intro rest rOk dom env t t' h n Φ hok ri hx φ a w hT g Q hex hre
  rw [Ri NT] at hx
  exact Su (sm:=sm) hρ hm hct hR h2 (.region id ops draw) rest rOk dom env t t' h n Φ hok ri hx φ a w hT g Q
   (fun e t1 h1 n1 hΦ hne φ' a' w' tf f1 g1 T1 hk=>hex e t1 h1 n1 hΦ hne φ' a' w' tf (Oj g f1) g1 T1 hk)
   fun he dom2 env2 t2 t2' h2 n2 hok2 ri2 hr φ2 a2 w2 f2 g2 T2=>hre he dom2 env2 t2 t2' h2 n2 hok2 ri2 hr φ2 a2 w2 (Oj g f2) g2 T2
 | seq x y ihx ihy =>
  intro rest rOk dom env t t' h n Φ hok ri hx φ a w hT g Q hex hre
  have hok:EU sm (AH P N x) (EU sm (AH P N y) rOk) dom=true:=hok
  have hx:(GR can sm cf2 (AH P N x) (GR can sm cf2 (AH P N y) rest) env t' h n).sat Φ:=hx
  have hre:or (AH P N x).ends (AH P N y).ends=false->_:=hre
  refine wp_seq (ihx _ _ dom env t t' h n Φ hok ri hx φ a w hT g _ (fun e t1 h1 n1 hΦ hne φ' a' w' tf f1 g1 T1 hk=>?_) fun he dom2 env2 t2 t2' h2' n2 hok2 ri2 hr φ2 a2 w2 f2 g2 T2=>?_)
  ·have:=hex e t1 h1 n1 hΦ hne φ' a' w' tf f1 g1 T1 hk
   cases e with
   | nrm=>exact absurd rfl hne
   | exit id=>exact this
   | ret=>exact this
  ·exact ihy rest rOk dom2 env2 t2 t2' h2' n2 Φ hok2 ri2 hr φ2 a2 w2 T2 g2 Q (fun e t1 h1 n1 hΦ hne φ' a' w' tf f1 g1 T1 hk=>hex e t1 h1 n1 hΦ hne φ' a' w' tf (Go.RowKit.Below.trans f2 f1) g1 T1 hk)
    fun he' dom3 env3 t3 t3' h3 n3 hok3 ri3 hr3 φ3 a3 w3 f3 g3 T3=>hre (by rw [he,he']; rfl) dom3 env3 t3 t3' h3 n3 hok3 ri3 hr3 φ3 a3 w3 (Go.RowKit.Below.trans f2 f3) g3 T3
 | cond c x y ihx ihy =>
  intro rest rOk dom env t t' h n Φ hok ri hx φ a w hT g Q hex hre
  have hok:EU sm (match AT N c with | some c=>.cond c (AH P N x) (AH P N y) | none=>.bad "a test") rOk dom=true:=hok
  have hx:(GR can sm cf2 (match AT N c with | some c=>.cond c (AH P N x) (AH P N y) | none=>.bad "a test") rest env t' h n).sat Φ:=hx
  have hre:AC.ends (match AT N c with | some c=>.cond c (AH P N x) (AH P N y) | none=>.bad "a test")=false->_:=hre
  split at hx
  ·rename_i c' hc
   simp only [hc] at hok hre
   have hre:and (AH P N x).ends (AH P N y).ends=false->_:=hre
   have hok:(DK sm dom c'&&br (AH P N x).ends (EU sm (AH P N x) (fun _=>true) dom&&EU sm (AH P N y) rOk dom) (br (AH P N y).ends (EU sm (AH P N x) rOk dom&&EU sm (AH P N y) (fun _=>true) dom) (EU sm (AH P N x) (fun _=>true) dom&&(EU sm (AH P N y) (fun _=>true) dom&&rOk []))))=true:=hok
   rw [Bool.and_eq_true] at hok
   have hx:(Bg sm env t' c' (fun v=>LP (AH P N x).ends (AH P N y).ends v (GR can sm cf2 (AH P N x)) (GR can sm cf2 (AH P N y)) rest env t' h n)).sat Φ:=hx
   have e0:∀ κ:V->R,Bg sm env t' c' κ=κ (ev c' t):=fun κ=>by
    cases c' with
    | c v=>rfl
    | t p=>exact ri.tell hok.1 κ
   rw [e0] at hx
   have g1:=Aj hc hT
   generalize hv:ev c' t=v at hx g1
   obtain ⟨_,hok⟩:=hok
   unfold LP at hx
   -- the value is a bool
   have key:∀ (A C:R) (κ:R->R),(∀ s,κ (.fail s) = .fail s)->(∀ x y,κ (.both x y) = .both (κ x) (κ y))->(κ (Ao v A C)).sat Φ->∃ q,a.eval c = .bool q∧(κ (br q A C)).sat Φ:=fun A C κ hκ hb hh=>by
    have no:(κ (.fail "")).sat Φ->∃ q,a.eval c = .bool q∧(κ (br q A C)).sat Φ:=fun hh=>by rw [hκ] at hh; exact hh.elim
    cases v with
    | bool q=>exact ⟨q,Ds g1,by cases q <;> exact hh⟩
    | oth o=>cases o with
     | bl =>
      have g1:=g1
      simp only [AD] at g1
      obtain ⟨q,hq⟩:=g1
      have hh:(κ (.both A C)).sat Φ:=hh
      rw [hb] at hh
      exact ⟨q,hq,by cases q; exact hh.2; exact hh.1⟩
     | _=>exact no hh
    | _=>exact no hh
   cases hex':(AH P N x).ends with
   | true =>
    rw [hex'] at hx hok hre
    have hok:(EU sm (AH P N x) (fun _=>true) dom&&EU sm (AH P N y) rOk dom)=true:=hok
    rw [Bool.and_eq_true] at hok
    obtain ⟨q,hq,hx⟩:=key _ _ id (fun _=>rfl) (fun _ _=>rfl) hx
    refine wp_cond hq ?_
    cases q with
    | true=>exact ihx r0 _ dom env t t' h n Φ hok.1 ri hx φ a w hT g Q hex fun he=>by rw [hex'] at he; cases he
    | false=>exact ihy rest rOk dom env t t' h n Φ hok.2 ri hx φ a w hT g Q hex fun he=>hre (by rw [he]; rfl)
   | false =>
    rw [hex'] at hx hok hre
    have hre:=hre rfl
    cases hey:(AH P N y).ends with
    | true =>
     rw [hey] at hx hok
     have hok:(EU sm (AH P N x) rOk dom&&EU sm (AH P N y) (fun _=>true) dom)=true:=hok
     rw [Bool.and_eq_true] at hok
     obtain ⟨q,hq,hx⟩:=key _ _ id (fun _=>rfl) (fun _ _=>rfl) hx
     refine wp_cond hq ?_
     cases q with
     | true=>exact ihx rest rOk dom env t t' h n Φ hok.1 ri hx φ a w hT g Q hex fun _=>hre
     | false=>exact ihy r0 _ dom env t t' h n Φ hok.2 ri hx φ a w hT g Q hex fun he=>by rw [hey] at he; cases he
    | false =>
     rw [hey] at hx hok
     have hok:(EU sm (AH P N x) (fun _=>true) dom&&(EU sm (AH P N y) (fun _=>true) dom&&rOk []))=true:=hok
     rw [Bool.and_eq_true,Bool.and_eq_true] at hok
     obtain ⟨q,hq,hx⟩:=key _ _ (fun r=>AQ r fun t h n=>rest [] t h n) (fun _=>rfl) (fun _ _=>rfl) hx
     refine wp_cond hq ?_
     have fin:∀ (Z:Code),Qs P ρ B N sm Z t h n (PS (fun t h n=>rest [] t h n) Φ)->Z.wp P Q a w:=fun Z HZ=>by
      refine HZ φ a w hT g Q fun e0 t0 h0 n0 hj φ' a' w' tf f1 g1 T1 hk=>?_
      cases e0 with
      | nrm=>exact hre [] [] tf t0 h0 n0 hok.2.2 (RI.start ri.inj hk) hj φ' a' w' f1 g1 T1
      | exit id=>exact hex _ _ _ _ hj (fun h=>by cases h) φ' a' w' tf f1 g1 T1 hk
      | ret=>exact hex _ _ _ _ hj (fun h=>by cases h) φ' a' w' tf f1 g1 T1 hk
     cases q with
     | true=>exact fin x (ihx.join hok.1 ri (DO hx))
     | false=>exact fin y (ihy.join hok.2.1 ri (DO hx))
  ·exact hx.elim
 | block id b ih =>
  intro rest rOk dom env t t' h n Φ hok ri hx φ a w hT g Q hex hre
  have hok:(EU sm (AH P N b) (fun _=>true) dom&&rOk [])=true:=hok
  rw [Bool.and_eq_true] at hok
  have hx:(Ad id (GR can sm cf2 (AH P N b) r0 env t' h n) (fun t h n=>rest [] t h n)).sat Φ:=hx
  have hre:=hre rfl
  refine wp_block (ih.join hok.1 ri (FG hx) φ a w hT g _ fun e0 t0 h0 n0 hx φ' a' w' tf f1 g1 T1 hk=>?_)
  cases e0 with
  | nrm=>exact hre [] [] tf t0 h0 n0 hok.2 (RI.start ri.inj hk) hx φ' a' w' f1 g1 T1
  | exit j =>
   show (if j=id then Q .normal a' w' else Q (.exit j) a' w')
   rcases hx with ⟨hj,hx⟩ | ⟨hj,hx⟩
   ·rw [if_pos hj]; exact hre [] [] tf t0 h0 n0 hok.2 (RI.start ri.inj hk) hx φ' a' w' f1 g1 T1
   ·rw [if_neg hj]; exact hex _ _ _ _ hx (fun h=>by cases h) φ' a' w' tf f1 g1 T1 hk
  | ret=>exact hex _ _ _ _ hx (fun h=>by cases h) φ' a' w' tf f1 g1 T1 hk
 | loop b ih =>
  intro rest rOk dom env t t' h n Φ hok ri hx φ a w hT g Q hex hre
  have hok:EU sm (AH P N b) (fun _=>true) []=true:=hok
  have hx:(VX (can (Kd (AH P N b))) (fun t h n=>GR can sm cf2 (AH P N b) r0 [] t h n) 1000000000 t' h n).sat Φ:=hx
  refine wp_loop_rounds 1000000000 ?_
  have key:∀ (k:Nat) (t:Regs) (t':S) (h:Heap) (n:K4),(∀ p s,BF p sm=some s->S.get s t'=Bc p t)->(VX (can (Kd (AH P N b))) (fun t h n=>GR can sm cf2 (AH P N b) r0 [] t h n) k t' h n).sat Φ->∀ φ a w,TR ρ N φ t a->Gam ρ B h n φ w →
    (∀ e t1 h1 n1,Φ (.ok e t1 h1 n1)->e ≠ .nrm->∀ φ' a' w' tf,Go.RowKit.Below B w w'->Gam ρ B h1 n1 φ' w'->TR ρ N φ' tf a'->(∀ p s,BF p sm=some s->S.get s t1=Bc p tf)->Q (Iq e) a' w')->Code.rounds P b Q k a w:=by
   intro k
   induction k with
   | zero=>intro t t' h n _ hx; exact hx.elim
   | succ k ihk =>
    intro t t' h n hk0 hx φ a w hT g hQ
    have hx:(can (Kd (AH P N b)) t' h n fun t h n=>AQ (GR can sm cf2 (AH P N b) r0 [] t h n) (VX (can (Kd (AH P N b))) (fun t h n=>GR can sm cf2 (AH P N b) r0 [] t h n) k)).sat Φ:=hx
    obtain ⟨t2',h2',n2,φ2,hx,g2,r2⟩:=hcan _ hx ρ B φ w (fun sl x=>∃ s p,s<N∧K2.ofN s=some p∧BF p sm=some sl∧x=a.tmps.getD s undef)
     (fun sl x y ⟨s,p,_,h2,h3,h4⟩ ⟨s',p',_,h2',h3',h4'⟩=>by
      have:=ri.inj h3 h3'; subst this
      have:=K2.ofN_inj h2 h2'; subst this
      rw [h4,h4'])
     g fun sl x ⟨s,p,h1,h2,h3,h4⟩=>by rw [hk0 p sl h3,h4]; exact hT.at_ s p h1 h2
    have T2:TR ρ N φ2 (N0 sm t2') a:=⟨hT.size,hT.defers,fun s p h1 h2=>by
     rw [Ge]
     cases hf:BF p sm with
     | none=>simp only [AD]
     | some sl=>exact r2 sl _ ⟨s,p,h1,h2,hf,rfl⟩⟩
    refine ih.join hok (RI.start ri.inj fun p s hf=>by rw [Ge,hf]) (DO hx) φ2 a w T2 g2 _ fun e0 t0 h0 n0 hx φ' a' w' tf f1 g1 T1 hk=>?_
    cases e0 with
    | nrm=>exact ihk tf t0 h0 n0 hk hx φ' a' w' T1 g1 fun e t1 h1 n1 hΦ hne φ3 a3 w3 tf3 f3 g3 T3 hk3=>hQ e t1 h1 n1 hΦ hne φ3 a3 w3 tf3 (Go.RowKit.Below.trans f1 f3) g3 T3 hk3
    | exit id=>exact hQ _ _ _ _ hx (fun h=>by cases h) φ' a' w' tf f1 g1 T1 hk
    | ret=>exact hQ _ _ _ _ hx (fun h=>by cases h) φ' a' w' tf f1 g1 T1 hk
  exact key _ t t' h n ri.keep hx φ a w hT g hex
 | rangeFunc _ _ _ _=>intro rest rOk dom env t t' h n Φ hok ri hx; exact hx.elim
 | scope _=>intro rest rOk dom env t t' h n Φ hok ri hx; exact hx.elim
 | goto _=>intro rest rOk dom env t t' h n Φ hok ri hx; exact hx.elim
 | refuse _=>intro rest rOk dom env t t' h n Φ hok ri hx; exact hx.elim
end
section
variable {P:Program} {ρ:Env} {B:Nat} {can:Nat->Ii}
theorem PE (hcan:∀ b,Eu (can b)) (hρ:Bh ρ) (hm:P.follows .mixedOrders=true) {cf:CF} {cf2:FK} (hct:G6 P ρ B cf) (hR:FH P ρ B cf) (h2:∀ f,cf2 (Bb f)=cf f) {f:FuncId} {e:Ent} (he:JN can P f e) {args:List V} {h:Heap} {n:K4} {Φ:R->Prop}
  (hr:(Lc cf2 (some e) args h n).sat Φ) {φ:AY} {w:World} {xs:Array Value} (g:Gam ρ B h n φ w) (hxs:Bo ρ φ args xs.toList) :
  Jk P f xs w fun x w'=>∃ v h1 n1 φ',Φ (.rv v h1 n1)∧Go.RowKit.Below B w w'∧Gam ρ B h1 n1 φ' w'∧AD ρ φ' v x:=by
 obtain ⟨sm,hd,hok⟩:=he
 cases hf:FW P f with
 | none=>rw [hf] at hd; cases hd
 | some a =>
  rw [hf] at hd hok
  obtain ⟨fn,c,ps,rs,hfn,hb,hps,hrs,hname,rfl⟩:=JZ hf
  have hd:some (Ent.code (fun l κ=>IW ps l G8 fun t=>κ (U6 sm t)) (fun cf t h n=>GR can sm cf (AH P fn.ntmps c) r0 [] t h n) (fun t h n=>HK sm rs t h n))=some e:=hd
  cases hd
  have hok:(Om sm&&(EU sm (AH P fn.ntmps c) (fun _=>true) []&&rs.all fun r=>Gi sm r.reg))=true:=hok
  rw [Bool.and_eq_true,Bool.and_eq_true] at hok
  obtain ⟨hsm,hok⟩:=hok
  have inj:∀ {p q s},BF p sm=some s->BF q sm=some s->p=q:=fun h h'=>Km hsm h h'
  have hr:(IW ps args G8 (fun t=>P7 (GR can sm cf2 (AH P fn.ntmps c) r0 [] (U6 sm t) h n) fun t h n=>HK sm rs t h n)).sat Φ:=hr
  rw [Kv] at hr
  obtain ⟨hlen,t0,e2,H0⟩:=Ir (k:=0) (fun i s hi=>by
   obtain ⟨hi',hi2⟩:=List.getElem?_eq_some_iff.1 hi
   simp at hi2; omega) hps (R.sat_good hr)
  rw [e2] at hr
  simp only [List.length_range] at hlen
  have hxl:xs.size=args.length:=by have:=B8 hxs; simpa using this
  have hxN:xs.size≤fn.ntmps:=by
   rcases Nat.eq_zero_or_pos xs.size with h0 | h0
   ·omega
   ·have:=IB hps (xs.size - 1) (List.mem_range.2 (by omega)); omega
  have hT:TR ρ fn.ntmps φ t0 { tmps:=xs++Array.replicate (fn.ntmps - xs.size) undef,defers:=[] }:={
   size:=by simp; omega
   defers:=rfl
   at_:=fun s p hs hp=>by
    rw [H0 s p hp,if_pos (Nat.zero_le _),Nat.sub_zero,Ja]
    show AD ρ φ _ ((xs++Array.replicate (fn.ntmps - xs.size) undef).getD s undef)
    rw [Array.getD_eq_getD_getElem?]
    by_cases hsx:s<xs.size
    ·rw [Array.getElem?_append_left hsx]
     have hsa:s<args.length:=by omega
     rw [List.getElem?_eq_getElem hsa]
     obtain ⟨x,hx,hrx⟩:=(C7.1 hxs).2 s _ (List.getElem?_eq_getElem hsa)
     rw [Array.getElem?_toList] at hx
     rw [hx]; exact hrx
    ·rw [Array.getElem?_append_right (by omega),Array.getElem?_replicate,if_pos (by omega),List.getElem?_eq_none (by omega)]
     exact DI }
  have hx:=HR hr
  have hOK:=(Um (N:=fn.ntmps) (sm:=sm) hcan hρ hm hct hR h2 c).join hok.1 (RI.start inj fun p s hs=>Nn hsm hs) hx
  intro o a K Q hK
  have hcf':(callFunc f xs).run P w = .ok (.enter f xs) w:=by
   have hname':fn.name ≠ "runtime.NumGoroutine":=by simpa using hname
   simp [callFunc,hfn,hname',hb]
  rw [hcf']
  refine calls_of_wp hfn hb (hOK φ _ w hT g _ fun e t1 h2' n2 hres φ' a' w' tf f1 g1 T1 hk=>?_)
  have fin:(HK sm rs t1 h2' n2).sat Φ->∃ X,(results fn a'.tmps).run P w' = .ok X w'∧K (a.put o.dst X) w':=fun hres=>by
   rw [OA (RI.start inj hk) fun r hr=>List.all_eq_true.1 hok.2 r hr] at hres
   obtain ⟨v,hv⟩:=PV (R.sat_good hres)
   obtain ⟨_,_,Hres⟩:=Md (ρ:=ρ) (B:=B) hrs hv
   rw [hv] at hres
   obtain ⟨X,hX,hrX⟩:=Hres φ' a' w' T1 g1
   exact ⟨X,hX,hK X w' ⟨v,h2',n2,φ',hres,f1,g1,hrX⟩⟩
  cases e with
  | nrm=>obtain ⟨X,hX,hKX⟩:=fin hres; exact ⟨T1.defers,X,hX,hKX⟩
  | exit id=>exact hres.elim
  | ret=>obtain ⟨X,hX,hKX⟩:=fin hres; exact ⟨T1.defers,X,hX,hKX⟩
theorem LL (hcan:∀ b,Eu (can b)) (hρ:Bh ρ) (hm:P.follows .mixedOrders=true) {T:FC} (hT:∀ B,Gz P ρ B T) {m:Nat} {f:FuncId} {fn:Func} {e:Ent} (he:JN can P f e) {args:List V}
  (hf:P.funcs[f]? = some fn) (hb:fn.body.isSome=true) (hn:(fn.name == "runtime.NumGoroutine")=false) (hx:Al (Lc (Ch T m) (some e) args AL IL)=true) {xs:Array Value} (hr:Bo ρ (fun _=>none) args xs.toList) (w:World) (hgl:Rg ρ w:=by intro b c e fr h; have h:(none:Option (Array Value×TypeId×(Nat×Nat)))=some (c,e,fr):=h; cases h) :
  Calls P f xs w fun e w'=>e = .returned (.bool true)∧Go.RowKit.Below w.heap.size w w':=by
 obtain ⟨c,hc⟩:=Option.isSome_iff_exists.1 hb
 obtain ⟨hct,hR⟩:=M7 (B:=w.heap.size) hρ hm (hT _) m
 have:=F8 (R:=fun x w'=>x = .bool true∧Go.RowKit.Below w.heap.size w w') hf hc (by simpa using hn) (fun o a K Q hK =>
  PE hcan hρ hm hct hR (fun _=>rfl) he (Ko hx) (Iy w IL hgl) hr o a K Q fun x w' ⟨v,h1,n1,φ',⟨h2,n2,e⟩,f1,_,r1⟩=>hK x w' ⟨by cases e; simpa only [AD] using r1,f1⟩)
 refine this.mono fun e w' he=>?_
 cases e with
 | returned v=>exact ⟨by rw [he.1],he.2⟩
 | _=>exact he.elim
end
end Go.Ev
