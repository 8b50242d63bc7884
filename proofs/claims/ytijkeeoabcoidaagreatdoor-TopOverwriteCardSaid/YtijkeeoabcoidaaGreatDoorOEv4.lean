/- AN EVALUATOR OF THE MODEL OF Go, PROVED SOUND, PART 4: what it says of a call holds in every world, on every tape. Conditions: none of its own; each theorem bears its premises. -/
import Derived.Test.YtijkeeoabcoidaaGreatDoorOEv3
import Derived.ChangeSame
import Derived.Deep.Slices
import Derived.Shelf.Strconv.Itoa1
import GoSem.ClaimGoes
noncomputable section
set_option linter.unusedSimpArgs false
set_option linter.unusedVariables false
namespace Go.Ev
set_option linter.unusedVariables false
abbrev I3:=Ren->S->Heap->K4->R
abbrev r0:I3:=fun _ t h n=>.ok .nrm t h n
def AC.ends (c:AC):Bool:=@AC.rec (fun _=>Bool) false (fun _ _ x y=>or x y) (fun _=>false) (fun _ _=>false) (fun _ _ _ x y=>and x y) (fun _ _ _=>false) (fun _ _=>true) (fun _=>true) true (fun _=>true) (fun _ _ _ _=>false) c
def AB (r:R) (κ:S->Heap->K4->R):R :=
 @R.rec (fun _=>R) (fun e t h n=>@Ex.rec (fun _=>R) (κ t h n) (fun id=>.ok (.exit id) t h n) (.ok .ret t h n) e) (C2 "") (fun w=>.fail w) (fun _ _ a b=>.both a b) r
def Ad (id:Nat) (r:R) (κ:S->Heap->K4->R):R :=
 @R.rec (fun _=>R) (fun e t h n=>@Ex.rec (fun _=>R) (κ t h n) (fun j=>br (Nat.beq j id) (κ t h n) (.ok (.exit j) t h n)) (.ok .ret t h n) e) (C2 "") (fun w=>.fail w) (fun _ _ a b=>.both a b) r
def Ay (body:S->Heap->K4->R):S->Heap->K4->R:=Ep body 1000000000
def BS (n:K4) (κ:K4->K4->R):R:=n.nx16 fun b=>b.nx16 fun n=>κ b n
abbrev Q1 (al:Bool) (n:K4) (κ:K4->K4->R):R:=UQ al (BS n κ) (κ n n)
abbrev LY (ea eb:Bool) (v:V) (a b:I3->I3) (rest:I3) (env:Ren) (t:S) (h:Heap) (n:K4):R :=
 UQ ea (Al v (a r0 env t h n) (b rest env t h n)) (UQ eb (Al v (a rest env t h n) (b r0 env t h n)) (AB (Al v (a r0 env t h n) (b r0 env t h n)) fun t h n=>rest [] t h n))
abbrev Gz (sm:SM) (cf:FZ) (c:AC):I3->I3 :=
 @AC.rec (fun _=>I3->I3) (fun rest=>rest) (fun _ _ a b rest=>a (b rest)) (fun l rest env t h n=>CP sm cf l env t h n rest)
  (fun al l rest env t h n=>Q1 al n fun b n=>Di sm cf b l env t h h n fun env t _ h n=>rest env t h n)
  (fun c x y a b rest env t h n=>Bm sm env t c fun v=>LY x.ends y.ends v a b rest env t h n)
  (fun id _ b rest env t h n=>Ad id (b r0 env t h n) fun t h n=>rest [] t h n)
  (fun _ b _ _ t h n=>Ay (fun t h n=>b r0 [] t h n) t h n) (fun id _ _ t h n=>.ok (.exit id) t h n) (fun _ _ t h n=>.ok .ret t h n) (Dt "")
  (fun pre sp d post rest env t h n=>CP sm cf pre env t h n fun env t h n=>UO cf sp (Bm sm env t) h n fun v h n=>CZ sm d t v fun t=>CP sm cf post (BL d v env) t h n rest) c
def DS (sm:SM) (dom:List K2) (c:Opd):Bool:=@Opd.rec (fun _=>Bool) (fun p=>Jn sm dom p) (fun _=>true) c
def QM (sm:SM) (dom:List K2) (sp:Sp):Bool:=@Sp.rec (fun _=>Bool) (fun x=>DS sm dom x) (fun x=>DS sm dom x) (fun x=>DS sm dom x) (fun _ l=>l.all (DS sm dom)) (fun x l=>DS sm dom x&&l.all (DS sm dom)) sp
def F0 (sm:SM) (c:AC):(List K2->Bool)->List K2->Bool :=
 @AC.rec (fun _=>(List K2->Bool)->List K2->Bool) (fun r=>r) (fun _ _ a b r=>a (b r)) (fun l r dom=>G8 sm l dom&&r (CI l dom))
  (fun al l r dom=>HO sm l dom&&r (I8 l dom))
  (fun c x y a b r dom=>DS sm dom c&&br x.ends (a (fun _=>true) dom&&b r dom) (br y.ends (a r dom&&b (fun _=>true) dom) (a (fun _=>true) dom&&(b (fun _=>true) dom&&r []))))
  (fun id _ b r dom=>b (fun _=>true) dom&&r []) (fun _ b _ _=>b (fun _=>true) []) (fun _ _ _=>true) (fun _ _=>true) (fun _ _ _=>true)
  (fun pre sp d post r dom=>G8 sm pre dom&&(QM sm (CI pre dom) sp&&(G8 sm post (FT d (CI pre dom))&&r (CI post (FT d (CI pre dom)))))) c
section
variable {P:Program} {ρ:Env} {B N:Nat} {cf:CF} {cf2:FZ} {sm:SM}
def Qg (κ:S->Heap->K4->R) (Φ:R->Prop):R->Prop
 | .ok .nrm t h n=>(κ t h n).sat Φ
 | .ok e t h n=>Φ (.ok e t h n)
 | _=>False
theorem DO {κ:S->Heap->K4->R} {Φ:R->Prop}:∀ {r:R},(AB r κ).sat Φ->r.sat (Qg κ Φ)
 | .ok e t h n,hs=>by cases e <;> exact hs
 | .rv _ _ _,hs=>hs.elim
 | .fail _,hs=>hs.elim
 | .both a b,hs=>⟨DO (r:=a) hs.1,DO (r:=b) hs.2⟩
theorem Um {body:S->Heap->K4->R} {k:Nat} {Φ:R->Prop} {t:S} {h:Heap} {n:K4} (hs:(Ep body (k+1) t h n).sat Φ):(body t h n).sat (Qg (Ep body k) Φ):=by
 have e:Ep body (k+1) t h n=@R.rec (fun _=>R) (fun e t h n=>@Ex.rec (fun _=>R) (Ep body k t h n) (fun id=>.ok (.exit id) t h n) (.ok .ret t h n) e) (C2 "") (fun w=>.fail w) (fun _ _ a b=>.both a b) (body t h n):=rfl
 rw [e] at hs
 generalize body t h n=r at hs
 clear e
 induction r with
 | ok e t h n=>cases e <;> exact hs
 | rv _ _ _=>exact hs.elim
 | fail _=>exact hs.elim
 | both a b iha ihb=>exact ⟨iha hs.1,ihb hs.2⟩
def Xo (id:Nat) (κ:S->Heap->K4->R) (Φ:R->Prop):R->Prop
 | .ok .nrm t h n=>(κ t h n).sat Φ
 | .ok (.exit j) t h n=>(j=id∧(κ t h n).sat Φ)∨(j≠id∧Φ (.ok (.exit j) t h n))
 | .ok .ret t h n=>Φ (.ok .ret t h n)
 | _=>False
theorem G1 {id:Nat} {κ:S->Heap->K4->R} {Φ:R->Prop}:∀ {r:R},(Ad id r κ).sat Φ->r.sat (Xo id κ Φ)
 | .ok e t h n,hs=>by
  cases e with
  | nrm=>exact hs
  | ret=>exact hs
  | exit j =>
   have hs:(br (Nat.beq j id) (κ t h n) (R.ok (.exit j) t h n)).sat Φ:=hs
   cases hj:Nat.beq j id with
   | true=>rw [hj] at hs; exact .inl ⟨Nat.eq_of_beq_eq_true hj,hs⟩
   | false=>rw [hj] at hs; exact .inr ⟨fun e=>by subst e; simp at hj,hs⟩
 | .rv _ _ _,hs=>hs.elim
 | .fail _,hs=>hs.elim
 | .both a b,hs=>⟨G1 (r:=a) hs.1,G1 (r:=b) hs.2⟩
def Sv (P:Program) (ρ:Env) (B N:Nat) (sm:SM) (C:Code) (t:Regs) (h:Heap) (n:K4) (Φ:R->Prop):Prop :=
 ∀ φ a w,TR ρ N φ t a->Gam ρ B h n φ w->∀ (Q:Exit->Act->World->Prop),
  (∀ e t1 h1 n1,Φ (.ok e t1 h1 n1)->∀ φ' a' w' tf,Fr h h1 φ φ' n n1 w w'->Gam ρ B h1 n1 φ' w'->TR ρ N φ' tf a'->(∀ p s,BJ p sm=some s->S.get s t1=Bi p tf)->Q (IE e) a' w')->C.wp P Q a w
def Tl (P:Program) (ρ:Env) (B N:Nat) (sm:SM) (cf2:FZ) (C:Code):Prop :=
 ∀ (rest:I3) (rOk:List K2->Bool) (dom:List K2) (env:Ren) (t:Regs) (t':S) (h:Heap) (n:K4) (Φ:R->Prop),
  F0 sm (AM P N C) rOk dom=true->RI sm dom env t t'->(Gz sm cf2 (AM P N C) rest env t' h n).sat Φ →
  ∀ φ a w,TR ρ N φ t a->Gam ρ B h n φ w->∀ (Q:Exit->Act->World->Prop),
   (∀ e t1 h1 n1,Φ (.ok e t1 h1 n1)->e ≠ .nrm->∀ φ' a' w' tf,Fr h h1 φ φ' n n1 w w'->Gam ρ B h1 n1 φ' w'->TR ρ N φ' tf a'->(∀ p s,BJ p sm=some s->S.get s t1=Bi p tf)->Q (IE e) a' w') →
   ((AM P N C).ends=false->∀ dom2 env2 t2 t2' h2 n2,rOk dom2=true->RI sm dom2 env2 t2 t2'->(rest env2 t2' h2 n2).sat Φ->∀ φ2 a2 w2,Fr h h2 φ φ2 n n2 w w2->Gam ρ B h2 n2 φ2 w2->TR ρ N φ2 t2 a2->Q .normal a2 w2) →
   C.wp P Q a w
theorem Tl.join {C:Code} (H:Tl P ρ B N sm cf2 C) {dom:List K2} {env:Ren} {t:Regs} {t':S} {h:Heap} {n:K4} {Φ:R->Prop} (hok:F0 sm (AM P N C) (fun _=>true) dom=true) (ri:RI sm dom env t t')
  (hx:(Gz sm cf2 (AM P N C) r0 env t' h n).sat Φ):Sv P ρ B N sm C t h n Φ:=by
 intro φ a w hT g Q hQ
 refine H r0 _ dom env t t' h n Φ hok ri hx φ a w hT g Q (fun e t1 h1 n1 hΦ _ φ' a' w' tf f1 g1 T1 hk=>hQ e t1 h1 n1 hΦ φ' a' w' tf f1 g1 T1 hk) fun _ dom2 env2 t2 t2' h2 n2 _ ri2 hr φ2 a2 w2 f2 g2 T2=>?_
 have hr:Φ (R.ok .nrm t2' h2 n2):=hr
 exact hQ _ _ _ _ hr φ2 a2 w2 t2 f2 g2 T2 ri2.keep
theorem UA {o:Oper} {d:Option K2} (h:VD N o=some d):QB N o.dst d:=by
 unfold VD at h
 cases hd:o.dst with
 | none=>rw [hd] at h; cases h; trivial
 | some s =>
  rw [hd] at h
  obtain ⟨p,hp,rfl⟩:=Aw h
  exact Dk hp
theorem Mg {ops:Array Oper}:∀ {l:List Oper} {pre:List AOp} {sp:Sp} {d:Option K2} {post:List AOp},Lf P N ops l=some (pre,sp,d,post) →
  ∃ l1 o l2,l=l1++o::l2∧Gi P N ops l1=some pre∧Yi P N o=some sp∧o.guard=none∧QB N o.dst d∧Gi P N ops l2=some post
 | [],pre,sp,d,post,h=>by cases h
 | o::l,pre,sp,d,post,h=>by
  unfold Lf at h
  split at h
  ·rename_i sp' hsp
   split at h
   ·rename_i d' post' hg hd hp
    cases h
    exact ⟨[],o,l,rfl,rfl,hsp,hg,UA hd,hp⟩
   ·cases h
  ·split at h
   ·cases h
   ·rename_i r hr
    split at h
    ·rename_i x hx
     obtain ⟨pre',sp',d',post'⟩:=r
     cases h
     obtain ⟨l1,o',l2,rfl,h1,h2,h3,h4,h5⟩:=Mg hr
     refine ⟨o::l1,o',l2,rfl,?_,h2,h3,h4,h5⟩
     simp only [Gi,hx,h1]
    ·cases h
theorem Xf {cf:CF} {cf2:FZ} (hcf:Gn P ρ B cf) (hR:FJ P ρ B cf) (h2:∀ f,cf2 (BC f)=cf f) {o:Oper} {sp:Sp} (hc:Yi P N o=some sp) {t:Regs} {h:Heap} {n:K4}:Vt P ρ B N o t h n (UO cf2 sp (fun x κ=>κ (ev x t)) h n):=by
 have tl:∀ (l:List Opd) (κ:List V->R),Fj (fun x κ=>κ (ev x t)) l κ=κ (l.map (ev · t)):=fun l κ=>FF (fun x _ κ=>rfl)
 unfold Yi at hc
 split at hc
 ·rename_i ty x ho
  split at hc
  ·rename_i kt e ht
   obtain ⟨x',hx,rfl⟩:=Aw hc
   exact (Rk ho hx ht).sp.in_
  ·cases hc
 ·rename_i x s ho
  split at hc
  ·cases hc
  ·rename_i hs
   obtain ⟨x',hx,rfl⟩:=Aw hc
   have:s=false:=by simpa using hs
   subst this
   exact (VB ho hx).in_
 ·rename_i x ho
  obtain ⟨x',hx,rfl⟩:=Aw hc
  exact (Rm ho hx).sp.in_
 ·rename_i ct ho
  split at hc
  ·rename_i f hcal
   split at hc
   ·obtain ⟨l,hl,rfl⟩:=Aw hc
    have e:UO cf2 (.tcl f l) (fun x κ=>κ (ev x t)) h n=fun κ=>Cx (cf2 (BC f) (l.map (ev · t)) h n) κ:=by
     funext κ
     exact tl l _
    rw [e]
    exact (Vz hcf h2 ho hcal hl).in_
   ·cases hc
  ·rename_i s hcal
   split at hc
   ·rename_i x l hx hl
    cases hc
    have e:UO cf2 (.dcl x l) (fun x κ=>κ (ev x t)) h n=fun κ=>Hy cf2 (ev x t) (l.map (ev · t)) h n κ:=by
     funext κ
     exact tl l _
    rw [e]
    exact VM hcf hR h2 ho hcal hx hl
   ·cases hc
  ·cases hc
 ·cases hc
theorem SX (hρ:Bq ρ) (hm:P.follows .mixedOrders=true) (hct:Gn P ρ B cf) (hR:FJ P ρ B cf) (h2:∀ f,cf2 (BC f)=cf f):∀ C:Code,Tl P ρ B N sm cf2 C:=by
 have hcf:=hct.ok
 intro C
 induction C with
 | skip=>intro rest rOk dom env t t' h n Φ hok ri hx φ a w hT g Q hex hre; exact wp_skip (hre rfl dom env t t' h n hok ri hx φ a w (Fr.refl h φ n w) g hT)
 | label l=>intro rest rOk dom env t t' h n Φ hok ri hx φ a w hT g Q hex hre; exact wp_label (hre rfl dom env t t' h n hok ri hx φ a w (Fr.refl h φ n w) g hT)
 | exit id =>
  intro rest rOk dom env t t' h n Φ hok ri hx φ a w hT g Q hex hre
  exact wp_exit (hex _ _ _ _ hx (fun h=>by cases h) φ a w t (Fr.refl h φ n w) g hT ri.keep)
 | ret =>
  intro rest rOk dom env t t' h n Φ hok ri hx φ a w hT g Q hex hre
  exact wp_ret (hex _ _ _ _ hx (fun h=>by cases h) φ a w t (Fr.refl h φ n w) g hT ri.keep)
 | region id ops draw =>
  intro rest rOk dom env t t' h n Φ hok ri hx φ a w hT g Q hex hre
  cases draw with
  | true =>
   have hok:F0 sm (C1 P N ops true) rOk dom=true:=hok
   have hx:(Gz sm cf2 (C1 P N ops true) rest env t' h n).sat Φ:=hx
   have hre:(C1 P N ops true).ends=false->_:=hre
   unfold C1 at hok hx hre
   split at hx
   ·exact hx.elim
   ·rename_i os hos
    simp only [hos,if_true] at hok hre
    simp only [if_true] at hx
    split at hx
    ·rename_i hpl
     rw [if_pos hpl] at hok hre
     have hre:=hre rfl
     have good:=Plot.good_of_ok hpl
     have hok:(HO sm ((BZ (ops.toList.map Co) os).sk.map (JJ os)) dom&&rOk (I8 ((BZ (ops.toList.map Co) os).sk.map (JJ os)) dom))=true:=hok
     rw [Bool.and_eq_true] at hok
     have run:∀ (b n0:K4),(Di sm cf2 b ((BZ (ops.toList.map Co) os).sk.map (JJ os)) env t' h h n0 (fun env t _ h n=>rest env t h n)).sat Φ →
       ((BZ (ops.toList.map Co) os).HasAl->b.d = .d0)->((BZ (ops.toList.map Co) os).HasAl->n.toN≤b.toN)->((BZ (ops.toList.map Co) os).HasAl->b.toN+16≤n0.toN)->n.toN≤n0.toN->(Code.region id ops true).wp P Q a w:=fun b n0 hx k1 k2 k3 k4=>by
      obtain ⟨st,env1,t1',s0,hst,ri1,e3⟩:=Ik h2 (s:=⟨t,h,h,n0⟩) hok.1 ri (R.sat_good hx)
      have e3:Di sm cf2 b ((BZ (ops.toList.map Co) os).sk.map (JJ os)) env t' h h n0 (fun env t _ h n=>rest env t h n)=_:=e3
      rw [e3,List.length_map] at hx
      rw [List.length_map] at ri1
      have r:Rn P N ops os (BZ (ops.toList.map Co) os) cf b st:=⟨good,hos,rfl,fun l x hlx=>hst l _ (by rw [List.getElem?_map,hlx]; rfl)⟩
      refine Rs (φ:=φ) hρ hm hcf r s0 k1 k2 k3 k4 hT g fun φ' a' w' f1 g1 T1=>?_
      exact hre _ env1 _ t1' _ _ hok.2 ri1 hx φ' a' w' f1 g1 T1
     have hx:(Q1 ((BZ (ops.toList.map Co) os).sk.any SI.isAl) n (fun b n=>Di sm cf2 b ((BZ (ops.toList.map Co) os).sk.map (JJ os)) env t' h h n fun env t _ h n=>rest env t h n)).sat Φ:=hx
     cases hal:(BZ (ops.toList.map Co) os).sk.any SI.isAl with
     | false =>
      have hn:=ZK good hal
      rw [hal] at hx
      exact run n n hx (fun h=>absurd h hn) (fun h=>absurd h hn) (fun h=>absurd h hn) (Nat.le_refl _)
     | true =>
      rw [hal] at hx
      have hx:(n.nx16 (fun b=>b.nx16 fun n0=>Di sm cf2 b ((BZ (ops.toList.map Co) os).sk.map (JJ os)) env t' h h n0 fun env t _ h n=>rest env t h n)).sat Φ:=hx
      rcases K4.nx16_eq n (fun b=>b.nx16 fun n0=>Di sm cf2 b ((BZ (ops.toList.map Co) os).sk.map (JJ os)) env t' h h n0 fun env t _ h n=>rest env t h n) with ⟨w',e1⟩ | ⟨b,hbn,hb0,e1⟩
      ·rw [e1] at hx; exact hx.elim
      ·rw [e1] at hx
       rcases K4.nx16_eq b (fun n0=>Di sm cf2 b ((BZ (ops.toList.map Co) os).sk.map (JJ os)) env t' h h n0 fun env t _ h n=>rest env t h n) with ⟨w',e2⟩ | ⟨n0,hn0,_,e2⟩
       ·rw [e2] at hx; exact hx.elim
       ·rw [e2] at hx
        have hbn':=RD hbn hb0 hn0
        exact run b n0 hx (fun _=>hb0) (fun _=>hbn'.1) (fun _=>by omega) (by omega)
    ·exact hx.elim
  | false =>
   have hok:F0 sm (match Lf P N ops ops.toList with | some r=>.spl r.1 r.2.1 r.2.2.1 r.2.2.2 | none=>C1 P N ops false) rOk dom=true:=hok
   have hx:(Gz sm cf2 (match Lf P N ops ops.toList with | some r=>.spl r.1 r.2.1 r.2.2.1 r.2.2.2 | none=>C1 P N ops false) rest env t' h n).sat Φ:=hx
   have hre:AC.ends (match Lf P N ops ops.toList with | some r=>.spl r.1 r.2.1 r.2.2.1 r.2.2.2 | none=>C1 P N ops false)=false->_:=hre
   cases hspl:Lf P N ops ops.toList with
   | some r =>
    rw [hspl] at hok hx hre
    obtain ⟨pre,sp,d,post⟩:=r
    have hre:=hre rfl
    obtain ⟨l1,o,l2,hl,c1,c2,c3,c4,c5⟩:=Mg hspl
    have hok:(G8 sm pre dom&&(QM sm (CI pre dom) sp&&(G8 sm post (FT d (CI pre dom))&&rOk (CI post (FT d (CI pre dom))))))=true:=hok
    rw [Bool.and_eq_true,Bool.and_eq_true,Bool.and_eq_true] at hok
    obtain ⟨k1,k2,k3,k4⟩:=hok
    have hx:(CP sm cf2 pre env t' h n fun env t h n=>UO cf2 sp (Bm sm env t) h n fun v h n=>CZ sm d t v fun t=>CP sm cf2 post (BL d v env) t h n rest).sat Φ:=hx
    obtain ⟨env1,t2,t2',h2',n2,e2,ri1,H⟩:=Dp (B:=B) (ops:=ops) hρ hcf h2 c1 k1 ri (R.sat_good hx)
    rw [e2] at hx
    refine (wpIn_wide (n:=0)).1 (wpIn_region_list ?_)
    rw [hl]
    refine DK (l:=none) (.inl rfl) (H φ a w hT g Q (wpListIn (Ly none) 0 P ops Q (o::l2)) fun φ' a' w' f1 g1 T1=>?_)
    have one:∀ x:Opd,DS sm (CI pre dom) x=true->∀ κ:V->R,Bm sm env1 t2' x κ=κ (ev x t2):=fun x hk κ=>by
     cases x with
     | c v=>rfl
     | t p=>exact ri1.tell hk κ
    have lst:∀ l:List Opd,l.all (DS sm (CI pre dom))=true->∀ κ:List V->R,Fj (Bm sm env1 t2') l κ=Fj (fun x κ=>κ (ev x t2)) l κ:=fun l hk κ=>by
     rw [FF (t:=t2) (fun x hx=>one x (List.all_eq_true.1 hk x hx)),FF (t:=t2) (fun x _ κ=>rfl)]
    have et:UO cf2 sp (Bm sm env1 t2') h2' n2=UO cf2 sp (fun x κ=>κ (ev x t2)) h2' n2:=by
     funext κ
     cases sp with
     | rng x=>exact one x k2 _
     | nxt x=>exact one x k2 _
     | ent x=>exact one x k2 _
     | tcl f l=>exact lst l k2 _
     | dcl x l =>
      have k2:(DS sm (CI pre dom) x&&l.all (DS sm (CI pre dom)))=true:=k2
      rw [Bool.and_eq_true] at k2
      exact (one x k2.1 _).trans (lst l k2.2 _)
    rw [et] at hx
    have hw:Region.wanted o (yielded ops a'.tmps)=true:=by simp [Region.wanted,c3]
    have st:=Xf (P:=P) (ρ:=ρ) (B:=B) hct hR h2 c2 _ Φ hx φ' a' w' T1 g1 (wpListIn (Ly none) 0 P ops Q l2) Q fun v h3 n3 hs φ2 x w2 f2 g2 r2=>by
     obtain ⟨t3',e3,ri3⟩:=ri1.put d v (fun t=>CP sm cf2 post (BL d v env1) t h3 n3 rest)
     have hs:(CZ sm d t2' v fun t=>CP sm cf2 post (BL d v env1) t h3 n3 rest).sat Φ:=hs
     rw [e3] at hs
     obtain ⟨env4,t4,t4',h4,n4,e4,ri4,H4⟩:=Dp (B:=B) (ops:=ops) hρ hcf h2 c5 k3 ri3 (R.sat_good hs)
     rw [e4] at hs
     have:=DK (l:=none) (n:=0) (r:=[]) (.inl rfl) (H4 φ2 _ w2 ((T1.mono f2.ext).puts c4 r2) g2 Q (wpListIn (Ly none) 0 P ops Q []) fun φ3 a3 w3 f3 g3 T3=>hre _ env4 t4 t4' h4 n4 k4 ri4 hs φ3 a3 w3 (Fr.trans f1 (Fr.trans f2 f3)) g3 T3)
     rwa [List.append_nil] at this
    show wpListIn (Ly none) 0 P ops Q (o::l2) a' w'
    simp only [wpListIn]
    rw [if_pos hw]
    exact st
   | none =>
   rw [hspl] at hok hx hre
   have hok:F0 sm (C1 P N ops false) rOk dom=true:=hok
   have hx:(Gz sm cf2 (C1 P N ops false) rest env t' h n).sat Φ:=hx
   have hre:(C1 P N ops false).ends=false->_:=hre
   unfold C1 at hok hx hre
   split at hx
   ·exact hx.elim
   ·rename_i al hal
    simp only [hal,Bool.false_eq_true,if_false] at hok hre
    simp only [Bool.false_eq_true,if_false] at hx
    have hre:=hre rfl
    have hok:(G8 sm al dom&&rOk (CI al dom))=true:=hok
    rw [Bool.and_eq_true] at hok
    have hx:(CP sm cf2 al env t' h n rest).sat Φ:=hx
    obtain ⟨env1,t2,t2',h2',n2,e2,ri1,H⟩:=PN (B:=B) (ops:=ops) hρ hcf h2 hal hok.1 ri (R.sat_good hx)
    rw [e2] at hx
    exact wp_region_list (H φ a w hT g Q fun φ' a' w' f1 g1 T1=>hre _ env1 t2 t2' h2' n2 hok.2 ri1 hx φ' a' w' f1 g1 T1)
 | seq x y ihx ihy =>
  intro rest rOk dom env t t' h n Φ hok ri hx φ a w hT g Q hex hre
  have hok:F0 sm (AM P N x) (F0 sm (AM P N y) rOk) dom=true:=hok
  have hx:(Gz sm cf2 (AM P N x) (Gz sm cf2 (AM P N y) rest) env t' h n).sat Φ:=hx
  have hre:or (AM P N x).ends (AM P N y).ends=false->_:=hre
  refine wp_seq (ihx _ _ dom env t t' h n Φ hok ri hx φ a w hT g _ (fun e t1 h1 n1 hΦ hne φ' a' w' tf f1 g1 T1 hk=>?_) fun he dom2 env2 t2 t2' h2' n2 hok2 ri2 hr φ2 a2 w2 f2 g2 T2=>?_)
  ·have:=hex e t1 h1 n1 hΦ hne φ' a' w' tf f1 g1 T1 hk
   cases e with
   | nrm=>exact absurd rfl hne
   | exit id=>exact this
   | ret=>exact this
  ·exact ihy rest rOk dom2 env2 t2 t2' h2' n2 Φ hok2 ri2 hr φ2 a2 w2 T2 g2 Q (fun e t1 h1 n1 hΦ hne φ' a' w' tf f1 g1 T1 hk=>hex e t1 h1 n1 hΦ hne φ' a' w' tf (Fr.trans f2 f1) g1 T1 hk)
    fun he' dom3 env3 t3 t3' h3 n3 hok3 ri3 hr3 φ3 a3 w3 f3 g3 T3=>hre (by rw [he,he']; rfl) dom3 env3 t3 t3' h3 n3 hok3 ri3 hr3 φ3 a3 w3 (Fr.trans f2 f3) g3 T3
 | cond c x y ihx ihy =>
  intro rest rOk dom env t t' h n Φ hok ri hx φ a w hT g Q hex hre
  have hok:F0 sm (match AY N c with | some c=>.cond c (AM P N x) (AM P N y) | none=>.bad "a test") rOk dom=true:=hok
  have hx:(Gz sm cf2 (match AY N c with | some c=>.cond c (AM P N x) (AM P N y) | none=>.bad "a test") rest env t' h n).sat Φ:=hx
  have hre:AC.ends (match AY N c with | some c=>.cond c (AM P N x) (AM P N y) | none=>.bad "a test")=false->_:=hre
  split at hx
  ·rename_i c' hc
   simp only [hc] at hok hre
   have hre:and (AM P N x).ends (AM P N y).ends=false->_:=hre
   have hok:(DS sm dom c'&&br (AM P N x).ends (F0 sm (AM P N x) (fun _=>true) dom&&F0 sm (AM P N y) rOk dom) (br (AM P N y).ends (F0 sm (AM P N x) rOk dom&&F0 sm (AM P N y) (fun _=>true) dom) (F0 sm (AM P N x) (fun _=>true) dom&&(F0 sm (AM P N y) (fun _=>true) dom&&rOk []))))=true:=hok
   rw [Bool.and_eq_true] at hok
   have hx:(Bm sm env t' c' (fun v=>LY (AM P N x).ends (AM P N y).ends v (Gz sm cf2 (AM P N x)) (Gz sm cf2 (AM P N y)) rest env t' h n)).sat Φ:=hx
   have e0:∀ κ:V->R,Bm sm env t' c' κ=κ (ev c' t):=fun κ=>by
    cases c' with
    | c v=>rfl
    | t p=>exact ri.tell hok.1 κ
   rw [e0] at hx
   have g1:=Am hc hT
   generalize hv:ev c' t=v at hx g1
   obtain ⟨_,hok⟩:=hok
   unfold LY at hx
   -- the value is a bool
   have key:∀ (A C:R) (κ:R->R),(∀ s,κ (.fail s) = .fail s)->(∀ x y,κ (.both x y) = .both (κ x) (κ y))->(κ (Al v A C)).sat Φ->∃ q,a.eval c = .bool q∧(κ (br q A C)).sat Φ:=fun A C κ hκ hb hh=>by
    have no:(κ (.fail "")).sat Φ->∃ q,a.eval c = .bool q∧(κ (br q A C)).sat Φ:=fun hh=>by rw [hκ] at hh; exact hh.elim
    cases v with
    | bool q=>exact ⟨q,Du g1,by cases q <;> exact hh⟩
    | oth o=>cases o with
     | bl =>
      have g1:=g1
      simp only [AG] at g1
      obtain ⟨q,hq⟩:=g1
      have hh:(κ (.both A C)).sat Φ:=hh
      rw [hb] at hh
      exact ⟨q,hq,by cases q; exact hh.2; exact hh.1⟩
     | _=>exact no hh
    | _=>exact no hh
   cases hex':(AM P N x).ends with
   | true =>
    rw [hex'] at hx hok hre
    have hok:(F0 sm (AM P N x) (fun _=>true) dom&&F0 sm (AM P N y) rOk dom)=true:=hok
    rw [Bool.and_eq_true] at hok
    obtain ⟨q,hq,hx⟩:=key _ _ id (fun _=>rfl) (fun _ _=>rfl) hx
    refine wp_cond hq ?_
    cases q with
    | true=>exact ihx r0 _ dom env t t' h n Φ hok.1 ri hx φ a w hT g Q hex fun he=>by rw [hex'] at he; cases he
    | false=>exact ihy rest rOk dom env t t' h n Φ hok.2 ri hx φ a w hT g Q hex fun he=>hre (by rw [he]; rfl)
   | false =>
    rw [hex'] at hx hok hre
    have hre:=hre rfl
    cases hey:(AM P N y).ends with
    | true =>
     rw [hey] at hx hok
     have hok:(F0 sm (AM P N x) rOk dom&&F0 sm (AM P N y) (fun _=>true) dom)=true:=hok
     rw [Bool.and_eq_true] at hok
     obtain ⟨q,hq,hx⟩:=key _ _ id (fun _=>rfl) (fun _ _=>rfl) hx
     refine wp_cond hq ?_
     cases q with
     | true=>exact ihx rest rOk dom env t t' h n Φ hok.1 ri hx φ a w hT g Q hex fun _=>hre
     | false=>exact ihy r0 _ dom env t t' h n Φ hok.2 ri hx φ a w hT g Q hex fun he=>by rw [hey] at he; cases he
    | false =>
     rw [hey] at hx hok
     have hok:(F0 sm (AM P N x) (fun _=>true) dom&&(F0 sm (AM P N y) (fun _=>true) dom&&rOk []))=true:=hok
     rw [Bool.and_eq_true,Bool.and_eq_true] at hok
     obtain ⟨q,hq,hx⟩:=key _ _ (fun r=>AB r fun t h n=>rest [] t h n) (fun _=>rfl) (fun _ _=>rfl) hx
     refine wp_cond hq ?_
     have fin:∀ (Z:Code),Sv P ρ B N sm Z t h n (Qg (fun t h n=>rest [] t h n) Φ)->Z.wp P Q a w:=fun Z HZ=>by
      refine HZ φ a w hT g Q fun e0 t0 h0 n0 hj φ' a' w' tf f1 g1 T1 hk=>?_
      cases e0 with
      | nrm=>exact hre [] [] tf t0 h0 n0 hok.2.2 (RI.start ri.inj hk) hj φ' a' w' f1 g1 T1
      | exit id=>exact hex _ _ _ _ hj (fun h=>by cases h) φ' a' w' tf f1 g1 T1 hk
      | ret=>exact hex _ _ _ _ hj (fun h=>by cases h) φ' a' w' tf f1 g1 T1 hk
     cases q with
     | true=>exact fin x (ihx.join hok.1 ri (DO hx))
     | false=>exact fin y (ihy.join hok.2.1 ri (DO hx))
  ·exact hx.elim
 | block id b ih =>
  intro rest rOk dom env t t' h n Φ hok ri hx φ a w hT g Q hex hre
  have hok:(F0 sm (AM P N b) (fun _=>true) dom&&rOk [])=true:=hok
  rw [Bool.and_eq_true] at hok
  have hx:(Ad id (Gz sm cf2 (AM P N b) r0 env t' h n) (fun t h n=>rest [] t h n)).sat Φ:=hx
  have hre:=hre rfl
  refine wp_block (ih.join hok.1 ri (G1 hx) φ a w hT g _ fun e0 t0 h0 n0 hx φ' a' w' tf f1 g1 T1 hk=>?_)
  cases e0 with
  | nrm=>exact hre [] [] tf t0 h0 n0 hok.2 (RI.start ri.inj hk) hx φ' a' w' f1 g1 T1
  | exit j =>
   show (if j=id then Q .normal a' w' else Q (.exit j) a' w')
   rcases hx with ⟨hj,hx⟩ | ⟨hj,hx⟩
   ·rw [if_pos hj]; exact hre [] [] tf t0 h0 n0 hok.2 (RI.start ri.inj hk) hx φ' a' w' f1 g1 T1
   ·rw [if_neg hj]; exact hex _ _ _ _ hx (fun h=>by cases h) φ' a' w' tf f1 g1 T1 hk
  | ret=>exact hex _ _ _ _ hx (fun h=>by cases h) φ' a' w' tf f1 g1 T1 hk
 | loop b ih =>
  intro rest rOk dom env t t' h n Φ hok ri hx φ a w hT g Q hex hre
  have hok:F0 sm (AM P N b) (fun _=>true) []=true:=hok
  have hx:(Ep (fun t h n=>Gz sm cf2 (AM P N b) r0 [] t h n) 1000000000 t' h n).sat Φ:=hx
  refine wp_loop_rounds 1000000000 ?_
  have key:∀ (k:Nat) (t:Regs) (t':S) (h:Heap) (n:K4),(∀ p s,BJ p sm=some s->S.get s t'=Bi p t)->(Ep (fun t h n=>Gz sm cf2 (AM P N b) r0 [] t h n) k t' h n).sat Φ->∀ φ a w,TR ρ N φ t a->Gam ρ B h n φ w →
    (∀ e t1 h1 n1,Φ (.ok e t1 h1 n1)->e ≠ .nrm->∀ φ' a' w' tf,Fr h h1 φ φ' n n1 w w'->Gam ρ B h1 n1 φ' w'->TR ρ N φ' tf a'->(∀ p s,BJ p sm=some s->S.get s t1=Bi p tf)->Q (IE e) a' w')->Code.rounds P b Q k a w:=by
   intro k
   induction k with
   | zero=>intro t t' h n _ hx; exact hx.elim
   | succ k ihk =>
    intro t t' h n hk0 hx φ a w hT g hQ
    refine ih.join hok (RI.start ri.inj hk0) (Um hx) φ a w hT g _ fun e0 t0 h0 n0 hx φ' a' w' tf f1 g1 T1 hk=>?_
    cases e0 with
    | nrm=>exact ihk tf t0 h0 n0 hk hx φ' a' w' T1 g1 fun e t1 h1 n1 hΦ hne φ2 a2 w2 tf2 f2 g2 T2 hk2=>hQ e t1 h1 n1 hΦ hne φ2 a2 w2 tf2 (Fr.trans f1 f2) g2 T2 hk2
    | exit id=>exact hQ _ _ _ _ hx (fun h=>by cases h) φ' a' w' tf f1 g1 T1 hk
    | ret=>exact hQ _ _ _ _ hx (fun h=>by cases h) φ' a' w' tf f1 g1 T1 hk
  exact key _ t t' h n ri.keep hx φ a w hT g hex
 | rangeFunc _ _ _ _=>intro rest rOk dom env t t' h n Φ hok ri hx; exact hx.elim
 | scope _=>intro rest rOk dom env t t' h n Φ hok ri hx; exact hx.elim
 | goto _=>intro rest rOk dom env t t' h n Φ hok ri hx; exact hx.elim
 | refuse _=>intro rest rOk dom env t t' h n Φ hok ri hx; exact hx.elim
end
end Go.Ev

namespace Go.Ev
set_option linter.unusedVariables false
def Vv (v:V):List K4->List K4 :=
 @V.rec (fun _=>List K4->List K4) (fun _=>List K4->List K4)
  (fun _ _ a=>a) (fun _ a=>a) (fun p _ a=>p::a) (fun p _ _ _ _ _ a=>p::a) (fun _ _ a=>a) (fun _ ih a=>ih a) (fun _ a=>a) (fun p a=>p::a) (fun _ _ ih a=>ih a) (fun _ ih a=>ih a) (fun _ a=>a)
  (fun a=>a) (fun _ _ ihx ihl a=>ihx (ihl a)) v
def Rw (l:List V) (a:List K4):List K4:=@List.rec V (fun _=>List K4) a (fun v _ ih=>Vv v ih) l
def Aax (es:List (V×V)) (a:List K4):List K4:=@List.rec (V×V) (fun _=>List K4) a (fun e _ ih=>@Prod.rec V V (fun _=>List K4) (fun x y=>Vv x (Vv y ih)) e) es
def Pg (o:Ob) (a:List K4):List K4 :=
 @Ob.rec (fun _=>List K4) (fun cs _ _=>@Cs.rec (fun _=>List K4) (fun xs=>Rw xs a) (fun _ _=>a) cs) (fun es _ _=>Aax es a) (fun _ _ _ _=>a) a (fun _ _=>a) o
def Ec (o:Ob):Bool:=@Ob.rec (fun _=>Bool) (fun _ sup _=>@Bool.rec (fun _=>Bool) true false sup) (fun _ _ _=>true) (fun _ _ _ _=>false) false (fun _ _=>false) o
def JX (o:Ob):Ob:=@Ob.rec (fun _=>Ob) (fun cs sup _=>.c cs sup none) (fun es bs c=>.m es bs c) (fun p s l c=>.it p s l c) .it0 (fun f b=>.lp f b) o
theorem GZ (o:Ob):BP (JX o)=none:=by cases o <;> rfl
theorem R0 {ρ:Env} {φ:B6} {w:World} {o:Ob} {b s tot:Nat} (h:Fg ρ φ w o b s tot):Fg ρ φ w (JX o) b s tot:=by cases o <;> exact h
def Cl (h:Heap) (k:Nat):List K4->Heap->List K4->(Heap->List K4->R)->R :=
 @Nat.rec (fun _=>List K4->Heap->List K4->(Heap->List K4->R)->R) (fun _ hs acc κ=>κ hs acc)
  (fun _ ih todo hs acc κ=>@List.rec K4 (fun _=>R) (κ hs acc) (fun p todo _=>Bk p hs fun o=>@Option.rec Ob (fun _=>R)
   (Bk p h fun o=>@Option.rec Ob (fun _=>R) (ih todo hs acc κ) (fun ob=>br (Ec ob) (Bx p hs (some (JX ob)) fun hs=>ih (Pg ob todo) hs (p::acc) κ) (ih todo hs acc κ)) o)
   (fun _=>ih todo hs acc κ) o) todo) k
def Nb (p n:K4):Bool:=Nat.ble (Nat.succ p.toN) n.toN
def EU (n:K4) (v:V):Bool :=
 @V.rec (fun _=>Bool) (fun _=>Bool)
  (fun _ _=>true) (fun _=>true) (fun p _=>Nb p n) (fun p _ _ _ _ _=>Nb p n) (fun _ _=>true) (fun _ ih=>ih) (fun _=>true) (fun p=>Nb p n) (fun _ _ ih=>ih) (fun _ ih=>ih) (fun o=>@Ot.rec (fun _=>Bool) true (fun _=>true) (fun p=>Nb p n) false (fun _ _ _=>true) (fun _ _=>true) true (fun _ _=>true) (fun _ _ _ _=>true) (fun _ _ _ _=>true) (fun _ _ _=>true) (fun _ _=>true) o)
  true (fun _ _ ihx ihl=>br ihx ihl false) v
def JS (n:K4) (l:List V):Bool:=EU n (.tup l)
def KL (p:Option K4) (κ:R):R:=@Option.rec K4 (fun _=>R) κ (Bb "") p
def Ps (n:K4) (a b:Cs) (κ:R):R :=
 @Cs.rec (fun _=>R) (fun xs=>@Cs.rec (fun _=>R) (fun ys=>br (JS n xs) (AD (.tup xs) (.tup ys) κ) (.fail "")) (AV "") b)
  (fun m c=>@Cs.rec (fun _=>R) (Bb "") (fun m' c'=>br (Nat.beq m m') (br (Nat.beq c c') κ (.fail "")) (.fail "")) b) a
def Kk (n:K4) (a:List (V×V)):List (V×V)->R->R :=
 @List.rec (V×V) (fun _=>List (V×V)->R->R) (fun b κ=>@List.rec (V×V) (fun _=>R) κ (C2 "") b)
  (fun e _ ih b κ=>@List.rec (V×V) (fun _=>R) (.fail "") (fun e' b _=>@Prod.rec V V (fun _=>R) (fun x y=>@Prod.rec V V (fun _=>R) (fun x' y'=>br (EU n x) (br (EU n y) (AD x x' (AD y y' (ih b κ))) (.fail "")) (.fail "")) e') e) b) a
def KQ (a:List Nat):List Nat->R->R :=
 @List.rec Nat (fun _=>List Nat->R->R) (fun b κ=>@List.rec Nat (fun _=>R) κ (C2 "") b)
  (fun x _ ih b κ=>@List.rec Nat (fun _=>R) (.fail "") (fun y b _=>br (Nat.beq x y) (ih b κ) (.fail "")) b) a
def Qo (n:K4) (a b:Ob) (κ:R):R :=
 @Ob.rec (fun _=>R) (fun cs sup prev=>br sup (.fail "") (KL prev (@Ob.rec (fun _=>R) (fun cs' sup' prev'=>br sup' (.fail "") (KL prev' (Ps n cs cs' κ))) (C2 "") (Fp "") (.fail "") (AV "") b)))
  (fun es bs c=>@Ob.rec (fun _=>R) (C2 "") (fun es' bs' c'=>br (Nat.beq c c') (KQ bs bs' (Kk n es es' κ)) (.fail "")) (Fp "") (.fail "") (AV "") b) (Fp "") (.fail "") (AV "") a
def GE (n:K4) (a b:Ch) (κ:R):R :=
 @Option.rec Ob (fun _=>R) (@Option.rec Ob (fun _=>R) κ (Bb "") b) (fun x=>@Option.rec Ob (fun _=>R) (.fail "") (fun y=>Qo n x y κ) b) a
def FL (n:K4) (h1 h':Heap) (acc:List K4) (κ:R):R :=
 @List.rec K4 (fun _=>R) κ (fun p _ ih=>Bk p h1 fun a=>Bk p h' fun b=>GE n a b ih) acc
def Xa (n:K4) (p:Option K4):Option K4:=@Option.rec K4 (fun _=>Option K4) none (fun q=>@Bool.rec (fun _=>Option K4) none (some q) (Nb q n)) p
def IM (n:K4) (o:Ch):Ch:=@Option.rec Ob (fun _=>Ch) none (fun o=>some (@Ob.rec (fun _=>Ob) (fun cs sup prev=>.c cs sup (Xa n prev)) (fun es bs c=>.m es bs c) (fun p s l c=>.it p s l c) .it0 (fun f b=>.lp f b) o)) o
def I5 (n:K4) (v1:V) (h1:Heap) (v':V) (h':Heap) (κ:R):R :=
 br (EU n v1) (AD v1 v' κ) (CX v1 (.fail "") fun p off len cap ex esz=>CX v' (.fail "") fun p' off' len' cap' ex' esz' =>
  br (Nb p n) (.fail "") (br (Nb p' n) (.fail "") (AD (.sl p off len cap ex esz) (.sl p off' len' cap' ex' esz') (Bk p h1 fun a=>Bk p' h' fun b=>GE n (IM n a) (IM n b) κ))))
def Pm (r:R):(V->Heap->R)->R :=
 @R.rec (fun _=>(V->Heap->R)->R) (fF5 "") (fun v h _ κ=>κ v h) (fun w _=>.fail w) (fun _ _ iha _ κ=>iha κ) r
def Ut (a b:K4) (κ:K4->R):R:=br (Nat.ble a.toN b.toN) (κ b) (κ a)
def Se (n:K4) (v1:V) (h1:Heap) (acc:List K4) (r:R):K4->(K4->R)->R :=
 @R.rec (fun _=>K4->(K4->R)->R) (Dt "") (fun v h m mx κ=>I5 n v1 h1 v h (FL n h1 h acc (Ut m mx κ))) (fun w _ _=>.fail w) (fun _ _ iha ihb mx κ=>iha mx fun mx=>ihb mx κ) r
def Qf (o:Ob) (h:Heap) (κ:Heap->R):R:=@Ob.rec (fun _=>R) (fun _ _ prev=>@Option.rec K4 (fun _=>R) (κ h) (fun q=>Bx q h none κ) prev) (fun _ _ _=>κ h) (fun _ _ _ _=>κ h) (κ h) (fun _ _=>κ h) o
def O7 (h h1:Heap) (acc:List K4):(Heap->R)->R :=
 @List.rec K4 (fun _=>(Heap->R)->R) (fun κ=>κ h)
  (fun p _ ih κ=>ih fun hf=>Bk p h fun o=>@Option.rec Ob (fun _=>R) (.fail "") (fun o=>Qf o hf fun hf=>Bk p h1 fun o1=>Bx p hf o1 κ) o) acc
def Vl (n:K4) (v1:V) (h1 hf:Heap) (m:K4):R :=
 br (EU n v1) (.rv v1 hf m) (CX v1 (.fail "") fun p off len cap ex esz=>Bk p h1 fun o=>@Option.rec Ob (fun _=>R) (.fail "") (fun ob=>Bx m hf (some ob) fun hf=>m.nx fun m'=>.rv (.sl m off len cap ex esz) hf m') (IM n o))
def Vw (n:K4) (h:Heap) (acc:List K4) (r:R):R :=
 Pm r fun v1 h1=>Se n v1 h1 acc r n fun m=>O7 h h1 acc fun hf=>Vl n v1 h1 hf m
def Yg (k:Nat) (run:Heap->R) (args:List V) (h:Heap) (n:K4):R :=
 Cl h k (Rw args []) AT [] fun hs acc=>Vw n h acc (run hs)
section
variable {P:Program} {ρ:Env} {B:Nat}
structure Sub (h hs:Heap) (acc:List K4):Prop where
 sub:∀ p o,AL p hs=some o->∃ o0,AL p h=some o0∧o=JX o0∧Ec o0=true∧p∈acc
 has:∀ p,p∈acc->∃ o,AL p hs=some o
theorem Sub.mem {h hs:Heap} {acc:List K4} (s:Sub h hs acc) {p:K4} {o:Ob} (hp:AL p hs=some o):p∈acc:=by
 obtain ⟨_,_,_,_,m⟩:=s.sub p o hp; exact m
theorem Sub.in_h {h hs:Heap} {acc:List K4} (s:Sub h hs acc) {p:K4} {o:Ob} (hp:AL p hs=some o):∃ o0,AL p h=some o0:=by
 obtain ⟨o0,e,_⟩:=s.sub p o hp; exact ⟨o0,e⟩
theorem Er {h:Heap}:∀ (k:Nat) {todo:List K4} {hs:Heap} {acc:List K4} {κ:Heap->List K4->R},Sub h hs acc->∃ hs' acc',Sub h hs' acc'∧Cl h k todo hs acc κ=κ hs' acc'
 | 0,todo,hs,acc,κ,s=>⟨hs,acc,s,rfl⟩
 | k+1,[],hs,acc,κ,s=>⟨hs,acc,s,rfl⟩
 | k+1,p::todo,hs,acc,κ,s=>by
  have e:Cl h (k+1) (p::todo) hs acc κ=Bk p hs fun o=>@Option.rec Ob (fun _=>R)
   (Bk p h fun o=>@Option.rec Ob (fun _=>R) (Cl h k todo hs acc κ) (fun ob=>br (Ec ob) (Bx p hs (some (JX ob)) fun hs=>Cl h k (Pg ob todo) hs (p::acc) κ) (Cl h k todo hs acc κ)) o)
   (fun _=>Cl h k todo hs acc κ) o:=rfl
  rw [e,Bc]
  cases h1:AL p hs with
  | some o=>exact Er k s
  | none =>
   show ∃ hs' acc',Sub h hs' acc'∧(Bk p h fun o=>@Option.rec Ob (fun _=>R) (Cl h k todo hs acc κ) (fun ob=>br (Ec ob) (Bx p hs (some (JX ob)) fun hs=>Cl h k (Pg ob todo) hs (p::acc) κ) (Cl h k todo hs acc κ)) o)=κ hs' acc'
   rw [Bc]
   cases h2:AL p h with
   | none=>exact Er k s
   | some ob =>
    show ∃ hs' acc',Sub h hs' acc'∧br (Ec ob) (Bx p hs (some (JX ob)) fun hs=>Cl h k (Pg ob todo) hs (p::acc) κ) (Cl h k todo hs acc κ)=κ hs' acc'
    cases h3:Ec ob with
    | false=>exact Er k s
    | true =>
     show ∃ hs' acc',Sub h hs' acc'∧(Bx p hs (some (JX ob)) fun hs=>Cl h k (Pg ob todo) hs (p::acc) κ)=κ hs' acc'
     rw [BD,Bt]
     refine Er k ⟨fun q o hq=>?_,fun q hq=>?_⟩
     ·rcases BA hq with ⟨rfl,e⟩ | ⟨hne,hq⟩
      ·cases e; exact ⟨ob,h2,rfl,h3,List.mem_cons_self ..⟩
      ·obtain ⟨o0,a,e,b,c⟩:=s.sub q o hq; exact ⟨o0,a,e,b,List.mem_cons_of_mem _ c⟩
     ·by_cases e:p=q
      ·subst e; exact ⟨JX ob,AF _ _ _⟩
      ·rw [As _ _ e]
       rcases List.mem_cons.1 hq with e' | hq
       ·exact absurd e'.symm e
       ·exact s.has q hq
theorem Sub.nil {h:Heap}:Sub h AT []:=⟨fun p o hp=>(by rw [Cv] at hp; cases hp),fun p hp=>(by simp at hp)⟩
theorem FX {p n:K4}:Nb p n=true ↔ p.toN<n.toN:=by unfold Nb; rw [Ap]; omega
mutual
theorem Et {n:K4} {φ1 φ2:B6} (hφ:∀ p x,p.toN<n.toN->φ1 p=some x->φ2 p=some x):∀ {v:V} {x:Value},EU n v=true->AG ρ φ1 v x->AG ρ φ2 v x
 | .int _ _,_,_,r=>by simpa only [AG] using r
 | .bool _,_,_,r=>by simpa only [AG] using r
 | .ptr p _,_,ho,r=>by
  have ho:Nb p n=true:=ho
  simp only [AG] at r ⊢
  obtain ⟨b,s,tot,hp,e⟩:=r
  exact ⟨b,s,tot,hφ _ _ (FX.1 ho) hp,e⟩
 | .sl p _ _ _ _ _,_,ho,r=>by
  have ho:Nb p n=true:=ho
  simp only [AG] at r ⊢
  obtain ⟨b,s,tot,o,c,hp,e⟩:=r
  exact ⟨b,s,tot,o,c,hφ _ _ (FX.1 ho) hp,e⟩
 | .str _ _,_,_,r=>by simpa only [AG] using r
 | .agg l,_,ho,r=>by
  have ho:JS n l=true:=ho
  simp only [AG] at r ⊢
  obtain ⟨cs,e,hl,hh⟩:=r
  exact ⟨cs,e,FO hφ ho hl,hh⟩
 | .nil _,_,_,r=>by simpa only [AG] using r
 | .map p,_,ho,r=>by
  have ho:Nb p n=true:=ho
  simp only [AG] at r ⊢
  obtain ⟨b,s,tot,hp,e⟩:=r
  exact ⟨b,s,tot,hφ _ _ (FX.1 ho) hp,e⟩
 | .fn _ l,_,ho,r=>by
  have ho:JS n l=true:=ho
  simp only [AG] at r ⊢
  obtain ⟨cs,e,hl⟩:=r
  exact ⟨cs,e,FO hφ ho hl⟩
 | .tup l,_,ho,r=>by
  have ho:JS n l=true:=ho
  simp only [AG] at r ⊢
  obtain ⟨cs,e,hl⟩:=r
  exact ⟨cs,e,FO hφ ho hl⟩
 | .oth o,_,ho,r=>by
  cases o with
  | yl p =>
   have ho:Nb p n=true:=ho
   simp only [AG] at r ⊢
   obtain ⟨b,s,tot,hp,e⟩:=r
   exact ⟨b,s,tot,hφ _ _ (FX.1 ho) hp,e⟩
  | _=>simp only [AG] at r ⊢ <;> exact r
theorem FO {n:K4} {φ1 φ2:B6} (hφ:∀ p x,p.toN<n.toN->φ1 p=some x->φ2 p=some x):∀ {l:List V} {xs:List Value},JS n l=true->Bu ρ φ1 l xs->Bu ρ φ2 l xs
 | [],_,_,r=>by simpa only [Bu] using r
 | v::l,_,ho,r=>by
  have ho:br (EU n v) (JS n l) false=true:=ho
  simp only [Bu] at r ⊢
  obtain ⟨y,ys,e,hy,hys⟩:=r
  cases h1:EU n v with
  | false=>rw [h1] at ho; cases ho
  | true =>
   rw [h1] at ho
   exact ⟨y,ys,e,Et hφ h1 hy,FO hφ ho hys⟩
end
theorem O3 {n:K4}:∀ {l:List V},JS n l=true->∀ v∈l,EU n v=true
 | [],_,v,hv=>by simp at hv
 | x::l,ho,v,hv=>by
  have ho:br (EU n x) (JS n l) false=true:=ho
  cases h1:EU n x with
  | false=>rw [h1] at ho; cases ho
  | true =>
   rw [h1] at ho
   rcases List.mem_cons.1 hv with e | hv
   ·subst e; exact h1
   ·exact O3 (show JS n l=true from ho) v hv
def Jp (n:K4):Ob->Prop
 | .c (.l xs) sup prev=>JS n xs=true∧sup=false∧prev=none
 | .c (.b _ _) sup prev=>sup=false∧prev=none
 | .m es _ _=>∀ e∈es,EU n e.1=true∧EU n e.2=true
 | _=>False
theorem Jp.prev {n:K4} {o:Ob} (h:Jp n o):BP o=none:=by
 cases o with
 | c cs sup prev=>cases cs with
  | l xs=>exact h.2.2
  | b m c=>exact h.2
 | m es bs c=>rfl
 | it _ _ _ _=>exact h.elim
 | it0=>exact h.elim
 | lp _ _=>exact h.elim
theorem Jp.sup {n:K4} {o:Ob} (h:Jp n o):Ip o=false:=by
 cases o with
 | c cs sup prev=>cases cs with
  | l xs=>exact h.2.1
  | b m c=>exact h.1
 | m es bs c=>rfl
 | it _ _ _ _=>exact h.elim
 | it0=>exact h.elim
 | lp _ _=>exact h.elim
theorem Rb {n:K4} {o:Ch} {ob:Ob} (h:IM n o=some ob):∃ obr,o=some obr∧(BP ob=none->∀ q,BP obr=some q->n.toN≤q.toN) ∧ ∀ {φ:B6} {w:World} {b s tot:Nat},Fg ρ φ w obr b s tot->Fg ρ φ w ob b s tot:=by
 cases o with
 | none=>cases h
 | some obr =>
  refine ⟨obr,rfl,?_⟩
  cases obr with
  | c cs sup prev =>
   have h:some (Ob.c cs sup (Xa n prev))=some ob:=h
   cases h
   refine ⟨fun hp q hq=>?_,fun k=>k⟩
   have hq:prev=some q:=hq
   subst hq
   have hp:@Bool.rec (fun _=>Option K4) none (some q) (Nb q n)=none:=hp
   cases hl:Nb q n with
   | true=>rw [hl] at hp; cases hp
   | false =>
    rcases Nat.lt_or_ge q.toN n.toN with h | h
    ·rw [FX.2 h] at hl; cases hl
    ·exact h
  | m _ _ _=>cases h; exact ⟨fun _ q hq=>(by cases hq),fun k=>k⟩
  | it _ _ _ _=>cases h; exact ⟨fun _ q hq=>(by cases hq),fun k=>k⟩
  | it0=>cases h; exact ⟨fun _ q hq=>(by cases hq),fun k=>k⟩
  | lp _ _=>cases h; exact ⟨fun _ q hq=>(by cases hq),fun k=>k⟩
theorem Kp {n:K4} {φ1 φ2:B6} (hφ:∀ p x,p.toN<n.toN->φ1 p=some x->φ2 p=some x) {w:World} {o:Ob} {b s tot:Nat} (ho:Jp n o) (k:Fg ρ φ1 w o b s tot):Fg ρ φ2 w o b s tot:=by
 cases o with
 | c cs sup prev =>
  obtain ⟨c,e,fr,h1,h2,h3,h4,h5⟩:=k
  refine ⟨c,e,fr,h1,h2,h3,h4,fun i v hv=>?_⟩
  obtain ⟨x,k1,k2,k3⟩:=h5 i v hv
  refine ⟨x,k1,?_,k3⟩
  cases cs with
  | l xs=>exact Et hφ (O3 ho.1 v (List.mem_of_getElem? hv)) k2
  | b m c =>
   by_cases hi:i<m
   ·rw [Cs.b_pos hi] at hv; cases hv; exact Et hφ rfl k2
   ·rw [Cs.b_neg hi] at hv; cases hv
 | m es bs clk =>
  obtain ⟨ents,h1,h2,h3⟩:=k
  refine ⟨ents,h1,?_,h3⟩
  have ho':∀ e∈es,EU n e.1=true∧EU n e.2=true:=ho
  clear h1 h3 ho
  generalize ents.toList=l at h2
  induction es generalizing l with
  | nil=>exact h2
  | cons e es ih =>
   obtain ⟨y,ys,rfl,k1,k2,k3⟩:=h2
   obtain ⟨o1,o2⟩:=ho' e (List.mem_cons_self ..)
   exact ⟨y,ys,rfl,Et hφ o1 k1,Et hφ o2 k2,ih (fun e he=>ho' e (List.mem_cons_of_mem _ he)) _ k3⟩
 | it _ _ _ _=>exact ho.elim
 | it0=>exact ho.elim
 | lp _ _=>exact ho.elim
theorem KJ {p:Option K4} {κ:R} (h:(KL p κ).good):p=none∧KL p κ=κ:=by
 cases p with
 | none=>exact ⟨rfl,rfl⟩
 | some q=>exact h.elim
theorem IZ:∀ {a b:List Nat} {κ:R},(KQ a b κ).good->a=b∧KQ a b κ=κ
 | [],[],κ,_=>⟨rfl,rfl⟩
 | [],_::_,κ,h=>h.elim
 | _::_,[],κ,h=>h.elim
 | x::a,y::b,κ,h=>by
  have h:R.good (br (Nat.beq x y) (KQ a b κ) (.fail "")):=h
  obtain ⟨h1,e1⟩:=Ao h
  rw [e1] at h
  obtain ⟨h2,e2⟩:=IZ h
  exact ⟨by rw [Nat.eq_of_beq_eq_true h1,h2],Eq.trans e1 e2⟩
theorem Jd {n:K4}:∀ {a b:List (V×V)} {κ:R},(Kk n a b κ).good->a=b∧(∀ e∈a,EU n e.1=true∧EU n e.2=true)∧Kk n a b κ=κ
 | [],[],κ,_=>⟨rfl,fun e he=>by simp at he,rfl⟩
 | [],_::_,κ,h=>h.elim
 | _::_,[],κ,h=>h.elim
 | (x,y)::a,(x',y')::b,κ,h=>by
  have h:R.good (br (EU n x) (br (EU n y) (AD x x' (AD y y' (Kk n a b κ))) (.fail "")) (.fail "")):=h
  obtain ⟨h1,e1⟩:=Ao h
  rw [e1] at h
  obtain ⟨h2,e2⟩:=Ao h
  rw [e2] at h
  obtain ⟨h3,e3⟩:=DP h
  rw [e3] at h
  obtain ⟨h4,e4⟩:=DP h
  rw [e4] at h
  obtain ⟨h5,h6,e5⟩:=Jd h
  refine ⟨by rw [h3,h4,h5],fun e he=>?_,Eq.trans e1 (e2.trans (e3.trans (e4.trans e5)))⟩
  rcases List.mem_cons.1 he with e' | he
  ·subst e'; exact ⟨h1,h2⟩
  ·exact h6 e he
theorem PK {n:K4} {a b:Ob} {κ:R} (h:(Qo n a b κ).good):a=b∧Jp n a∧Qo n a b κ=κ:=by
 cases a with
 | c cs sup prev =>
  have h0:R.good (br sup (.fail "") (KL prev (@Ob.rec (fun _=>R) (fun cs' sup' prev'=>br sup' (.fail "") (KL prev' (Ps n cs cs' κ))) (C2 "") (Fp "") (.fail "") (AV "") b))):=h
  obtain ⟨h1,e1⟩:=Fm h0
  rw [e1] at h0
  obtain ⟨h2,e2⟩:=KJ h0
  rw [e2] at h0
  cases b with
  | c cs' sup' prev' =>
   have h0:R.good (br sup' (.fail "") (KL prev' (Ps n cs cs' κ))):=h0
   obtain ⟨h3,e3⟩:=Fm h0
   rw [e3] at h0
   obtain ⟨h4,e4⟩:=KJ h0
   rw [e4] at h0
   subst h1 h2 h3 h4
   cases cs with
   | l xs=>cases cs' with
    | l ys =>
     have h0:R.good (br (JS n xs) (AD (.tup xs) (.tup ys) κ) (.fail "")):=h0
     obtain ⟨h5,e5⟩:=Ao h0
     rw [e5] at h0
     obtain ⟨h6,e6⟩:=DP h0
     cases h6
     exact ⟨rfl,⟨h5,rfl,rfl⟩,Eq.trans e5 e6⟩
    | b m c=>exact h0.elim
   | b m c=>cases cs' with
    | l ys=>exact h0.elim
    | b m' c' =>
     have h0:R.good (br (Nat.beq m m') (br (Nat.beq c c') κ (.fail "")) (.fail "")):=h0
     obtain ⟨h5,e5⟩:=Ao h0
     rw [e5] at h0
     obtain ⟨h6,e6⟩:=Ao h0
     exact ⟨by rw [Nat.eq_of_beq_eq_true h5,Nat.eq_of_beq_eq_true h6],⟨rfl,rfl⟩,Eq.trans e5 e6⟩
  | m _ _ _=>exact h0.elim
  | it _ _ _ _=>exact h0.elim
  | it0=>exact h0.elim
  | lp _ _=>exact h0.elim
 | m es bs c=>cases b with
  | m es' bs' c' =>
   have h0:R.good (br (Nat.beq c c') (KQ bs bs' (Kk n es es' κ)) (.fail "")):=h
   obtain ⟨h1,e1⟩:=Ao h0
   rw [e1] at h0
   obtain ⟨h2,e2⟩:=IZ h0
   rw [e2] at h0
   obtain ⟨h3,h4,e3⟩:=Jd h0
   refine ⟨by rw [Nat.eq_of_beq_eq_true h1,h2,h3],h4,Eq.trans e1 (e2.trans e3)⟩
  | c _ _ _=>exact h.elim
  | it _ _ _ _=>exact h.elim
  | it0=>exact h.elim
  | lp _ _=>exact h.elim
 | it _ _ _ _=>exact h.elim
 | it0=>exact h.elim
 | lp _ _=>exact h.elim
theorem Jg {n:K4} {a b:Ch} {κ:R} (h:(GE n a b κ).good):a=b∧(∀ o,a=some o->Jp n o)∧GE n a b κ=κ:=by
 cases a with
 | none=>cases b with
  | none=>exact ⟨rfl,fun o h=>(by cases h),rfl⟩
  | some y=>exact h.elim
 | some x=>cases b with
  | none=>exact h.elim
  | some y =>
   obtain ⟨h1,h2,e⟩:=PK (show R.good (Qo n x y κ) from h)
   subst h1
   exact ⟨rfl,fun o h=>(by cases h; exact h2),e⟩
theorem It {n:K4} {h1 h':Heap}:∀ {acc:List K4} {κ:R},(FL n h1 h' acc κ).good->(∀ p∈acc,AL p h1=AL p h' ∧ ∀ o,AL p h1=some o->Jp n o)∧FL n h1 h' acc κ=κ
 | [],κ,_=>⟨fun p hp=>by simp at hp,rfl⟩
 | q::acc,κ,h=>by
  have e0:FL n h1 h' (q::acc) κ=GE n (AL q h1) (AL q h') (FL n h1 h' acc κ):=by
   show (Bk q h1 fun a=>Bk q h' fun b=>GE n a b (FL n h1 h' acc κ))=_
   rw [Bc,Bc]
  rw [e0] at h
  obtain ⟨a1,a2,e1⟩:=Jg h
  rw [e1] at h
  obtain ⟨a3,e2⟩:=It h
  refine ⟨fun p hp=>?_,e0.trans (e1.trans e2)⟩
  rcases List.mem_cons.1 hp with e | hp
  ·subst e; exact ⟨a1,a2⟩
  ·exact a3 p hp
def Sz (n:K4) (v1:V) (h1:Heap) (v':V) (h':Heap):Prop :=
 (EU n v1=true∧v1=v')∨(EU n v1=false ∧ ∃ p p' off len cap ex esz,v1 = .sl p off len cap ex esz∧v' = .sl p' off len cap ex esz∧n.toN≤p.toN∧n.toN≤p'.toN∧IM n (AL p h1)=IM n (AL p' h') ∧ ∀ o,IM n (AL p h1)=some o->Jp n o)
theorem MW {n:K4} {v1 v':V} {h1 h':Heap} {κ:R} (h:(I5 n v1 h1 v' h' κ).good):Sz n v1 h1 v' h'∧I5 n v1 h1 v' h' κ=κ:=by
 unfold I5 at h ⊢
 cases ho:EU n v1 with
 | true =>
  rw [ho] at h
  obtain ⟨a,e⟩:=DP (show R.good (AD v1 v' κ) from h)
  exact ⟨.inl ⟨ho,a⟩,e⟩
 | false =>
  rw [ho] at h
  have h:R.good (CX v1 (.fail "") fun p off len cap ex esz=>CX v' (.fail "") fun p' off' len' cap' ex' esz'=>br (Nb p n) (.fail "") (br (Nb p' n) (.fail "") (AD (.sl p off len cap ex esz) (.sl p off' len' cap' ex' esz') (Bk p h1 fun a=>Bk p' h' fun b=>GE n (IM n a) (IM n b) κ)))):=h
  show Sz n v1 h1 v' h'∧(CX v1 (.fail "") fun p off len cap ex esz=>CX v' (.fail "") fun p' off' len' cap' ex' esz'=>br (Nb p n) (.fail "") (br (Nb p' n) (.fail "") (AD (.sl p off len cap ex esz) (.sl p off' len' cap' ex' esz') (Bk p h1 fun a=>Bk p' h' fun b=>GE n (IM n a) (IM n b) κ))))=κ
  rcases CC h with ⟨_,e1⟩ | ⟨p,off,len,cap,ex,esz,hv,e1⟩
  ·rw [e1] at h; exact h.elim
  rw [e1] at h ⊢
  rcases CC h with ⟨_,e2⟩ | ⟨p',off',len',cap',ex',esz',hv',e2⟩
  ·rw [e2] at h; exact h.elim
  rw [e2] at h ⊢
  obtain ⟨a1,e3⟩:=Fm h
  rw [e3] at h ⊢
  obtain ⟨a2,e4⟩:=Fm h
  rw [e4] at h ⊢
  obtain ⟨a3,e5⟩:=DP h
  rw [e5] at h ⊢
  rw [Bc,Bc] at h ⊢
  obtain ⟨a4,a5,e6⟩:=Jg h
  rw [e6]
  cases a3
  have n1:n.toN≤p.toN:=by
   rcases Nat.lt_or_ge p.toN n.toN with h | h
   ·rw [FX.2 h] at a1; cases a1
   ·exact h
  have n2:n.toN≤p'.toN:=by
   rcases Nat.lt_or_ge p'.toN n.toN with h | h
   ·rw [FX.2 h] at a2; cases a2
   ·exact h
  exact ⟨.inr ⟨ho,p,p',off,len,cap,ex,esz,hv,hv',n1,n2,a4,a5⟩,rfl⟩
theorem U0 (a b:K4) (κ:K4->R):∃ m:K4,Ut a b κ=κ m∧a.toN≤m.toN∧b.toN≤m.toN:=by
 unfold Ut
 cases h:Nat.ble a.toN b.toN with
 | true=>exact ⟨b,rfl,Ap.1 h,Nat.le_refl _⟩
 | false =>
  have:¬ a.toN≤b.toN:=fun h'=>by rw [Ap.2 h'] at h; cases h
  exact ⟨a,rfl,Nat.le_refl _,by omega⟩
def UV (n:K4) (v1:V) (h1:Heap) (acc:List K4) (m:K4):R->Prop
 | .rv v h n'=>Sz n v1 h1 v h∧(∀ p∈acc,AL p h1=AL p h ∧ ∀ o,AL p h1=some o->Jp n o)∧n'.toN≤m.toN
 | _=>False
theorem Iy {n:K4} {v1:V} {h1:Heap} {acc:List K4}:∀ {r:R} {mx:K4} {κ:K4->R},(Se n v1 h1 acc r mx κ).good->∃ m:K4,mx.toN≤m.toN∧r.sat (UV n v1 h1 acc m)∧Se n v1 h1 acc r mx κ=κ m
 | .ok _ _ _ _,mx,κ,h=>h.elim
 | .fail _,mx,κ,h=>h.elim
 | .rv v h0 n',mx,κ,h=>by
  have h:R.good (I5 n v1 h1 v h0 (FL n h1 h0 acc (Ut n' mx κ))):=h
  obtain ⟨a1,e1⟩:=MW h
  rw [e1] at h
  obtain ⟨a2,e2⟩:=It h
  rw [e2] at h
  obtain ⟨m,e3,l1,l2⟩:=U0 n' mx κ
  exact ⟨m,l2,⟨a1,a2,l1⟩,Eq.trans e1 (e2.trans e3)⟩
 | .both a b,mx,κ,h=>by
  have h:R.good (Se n v1 h1 acc a mx fun mx=>Se n v1 h1 acc b mx κ):=h
  obtain ⟨m1,l1,s1,e1⟩:=Iy h
  rw [e1] at h
  obtain ⟨m2,l2,s2,e2⟩:=Iy h
  refine ⟨m2,Nat.le_trans l1 l2,⟨R.sat_mono (fun r hr=>?_) s1,s2⟩,Eq.trans e1 e2⟩
  cases r with
  | rv v h0 n'=>exact ⟨hr.1,hr.2.1,Nat.le_trans hr.2.2 l2⟩
  | ok _ _ _ _=>exact hr
  | fail _=>exact hr
  | both _ _=>exact hr
theorem Jk:∀ {r:R} {κ:V->Heap->R},(Pm r κ).good->∃ v h,Pm r κ=κ v h
 | .ok _ _ _ _,κ,h=>h.elim
 | .fail _,κ,h=>h.elim
 | .rv v h0 n',κ,h=>⟨v,h0,rfl⟩
 | .both a b,κ,h=>Jk (r:=a) h
theorem Sq (o:Ob) (h:Heap) (κ:Heap->R):Qf o h κ=κ (G9 (BP o) h):=by
 cases o with
 | c cs sup prev =>
  cases prev with
  | none=>rfl
  | some q=>show Bx q h none κ=_; rw [BD,Bt]; rfl
 | m _ _ _=>rfl
 | it _ _ _ _=>rfl
 | it0=>rfl
 | lp _ _=>rfl
structure PutOK (h h1:Heap) (acc:List K4) (hf:Heap):Prop where
 put:∀ q o,AL q hf=some o->(q∈acc∧AL q h1=some o)∨(q ∉ acc∧AL q h=some o ∧ ∀ p∈acc,∀ op,AL p h=some op->BP op≠some q)
theorem KK {h h1:Heap}:∀ {acc:List K4} {κ:Heap->R},(O7 h h1 acc κ).good->∃ hf,PutOK h h1 acc hf∧O7 h h1 acc κ=κ hf
 | [],κ,_=>⟨h,⟨fun q o hq=>.inr ⟨by simp,hq,fun p hp=>by simp at hp⟩⟩,rfl⟩
 | p::acc,κ,hg=>by
  have hg:R.good (O7 h h1 acc fun hf=>Bk p h fun o=>@Option.rec Ob (fun _=>R) (.fail "") (fun o=>Qf o hf fun hf=>Bk p h1 fun o1=>Bx p hf o1 κ) o):=hg
  obtain ⟨hf,ok,e1⟩:=KK hg
  rw [e1] at hg
  have e0:O7 h h1 (p::acc) κ=_:=e1
  rw [e0]
  rw [Bc] at hg ⊢
  cases hp:AL p h with
  | none=>rw [hp] at hg; exact hg.elim
  | some op =>
   show ∃ hf',PutOK h h1 (p::acc) hf'∧(Qf op hf fun hf=>Bk p h1 fun o1=>Bx p hf o1 κ)=κ hf'
   rw [Sq,Bc,BD,Bt]
   refine ⟨_,⟨fun q o hq=>?_⟩,rfl⟩
   rcases BA hq with ⟨rfl,e⟩ | ⟨hne,hq⟩
   ·exact .inl ⟨List.mem_cons_self ..,e⟩
   ·obtain ⟨k1,hq⟩:=D1 hq
    rcases ok.put q o hq with ⟨a,b⟩ | ⟨a,b,c⟩
    ·exact .inl ⟨List.mem_cons_of_mem _ a,b⟩
    ·refine .inr ⟨fun hm=>?_,b,fun p' hp' op' hop'=>?_⟩
     ·rcases List.mem_cons.1 hm with e | hm
      ·exact hne e.symm
      ·exact a hm
     ·rcases List.mem_cons.1 hp' with e | hp'
      ·subst e; rw [hp] at hop'; cases hop'; exact k1
      ·exact c p' hp' op' hop'
section
variable {h hs h1 h' hf:Heap} {acc:List K4} {n n' m:K4} {v1 v:V} {φ φ':B6} {w w':World}
theorem FE (sub:Sub h hs acc) (put:PutOK h h1 acc hf) (g:Gam ρ B h n φ w) {q:K4} {o:Ob} (hq:q ∉ acc) (ho:AL q hf=some o) {b s tot:Nat} (hφ:φ q=some (b,s,tot)) {p:K4} (hp:p∈acc) {s' tot':Nat} (hφp:φ p=some (b,s',tot')):False:=by
 obtain ⟨op',hop⟩:=sub.has p hp
 obtain ⟨op,k1,_,k2,_⟩:=sub.sub p op' hop
 rcases put.put q o ho with ⟨a,_⟩ | ⟨_,a,c⟩
 ·exact hq a
 ·have hne:p≠q:=fun e=>hq (e ▸ hp)
  rcases g.sep p q op o b s' tot' s tot hne k1 a hφp hφ with e | e
  ·exact c p hp op k1 e
  ·have:=g.sup q p o op b s tot s' tot' a e k1 hφ hφp
   cases op with
   | c cs sup prev =>
    have this:sup=true:=this
    subst this
    cases k2
   | m _ _ _=>cases this
   | it _ _ _ _=>cases this
   | it0=>cases this
   | lp _ _=>cases this
theorem T7 (sub:Sub h hs acc) (put:PutOK h h1 acc hf) (g:Gam ρ B h n φ w) (f1:Fr hs h' φ φ' n n' w w') {q:K4} {o:Ob} (hq:q ∉ acc) (ho:AL q hf=some o) {b s tot:Nat} (hφ:φ q=some (b,s,tot)):w'.heap[b]? = w.heap[b]?:=by
 refine f1.old b (g.blk q b s tot hφ).2 fun p s' tot' hp=>?_
 cases hx:AL p hs with
 | none=>rfl
 | some o'=>exact (FE sub put g hq ho hφ (sub.mem hx) hp).elim
theorem SD (sub:Sub h hs acc) (put:PutOK h h1 acc hf) (g:Gam ρ B h n φ w) (f1:Fr hs h' φ φ' n n' w w') (g1:Gam ρ B h' n' φ' w')
  (hacc:∀ p∈acc,AL p h1=AL p h' ∧ ∀ o,AL p h1=some o->Jp n o) (hm:n.toN≤m.toN):Gam ρ B hf m φ w'∧Fr h hf φ φ n m w w':=by
 have back:∀ p x,p.toN<n.toN->φ' p=some x->φ p=some x:=fun p x hp hx=>by
  rcases f1.new p x hx with h | ⟨h,_⟩
  ·exact h
  ·omega
 have inacc:∀ q o,q∈acc->AL q hf=some o->AL q h'=some o∧Jp n o:=fun q o hq ho=>by
  rcases put.put q o ho with ⟨_,a⟩ | ⟨a,_⟩
  ·exact ⟨(hacc q hq).1 ▸ a,(hacc q hq).2 o a⟩
  ·exact absurd hq a
 have outacc:∀ q o,q ∉ acc->AL q hf=some o->AL q h=some o:=fun q o hq ho=>by
  rcases put.put q o ho with ⟨a,_⟩ | ⟨_,a,_⟩
  ·exact absurd a hq
  ·exact a
 refine ⟨⟨Nat.le_trans g.base f1.size,fun p x hx=>Nat.lt_of_lt_of_le (g.dom p x hx) hm,fun p b s tot hx=>⟨(g.blk p b s tot hx).1,Nat.lt_of_lt_of_le (g.blk p b s tot hx).2 f1.size⟩,fun q o b s tot ho hx=>?_,fun p q o o' b s tot s' tot' hne ho ho' hx hy=>?_,fun p q o o' b s tot s' tot' ho hpr ho' hx hy=>?_,g1.glob⟩,
  ⟨B6.le_refl φ,fun _ _ h=>.inl h,hm,f1.os,f1.tape,f1.out,f1.size,fun b hb hn=>f1.old b hb fun p s tot hp=>?_,fun _ _ _ _ h=>.inl h,fun p hp hn=>?_⟩⟩
 ·by_cases hq:q∈acc
  ·obtain ⟨a,c⟩:=inacc q o hq ho
   exact Kp back c (g1.obj q o b s tot a (f1.ext _ _ hx))
  ·exact Ca (T7 sub put g f1 hq ho hx) (g.obj q o b s tot (outacc q o hq ho) hx)
 ·by_cases hp:p∈acc
  ·by_cases hq:q∈acc
   ·exact g1.sep p q o o' b s tot s' tot' hne (inacc p o hp ho).1 (inacc q o' hq ho').1 (f1.ext _ _ hx) (f1.ext _ _ hy)
   ·exact (FE sub put g hq ho' hy hp hx).elim
  ·by_cases hq:q∈acc
   ·exact (FE sub put g hp ho hx hq hy).elim
   ·exact g.sep p q o o' b s tot s' tot' hne (outacc p o hp ho) (outacc q o' hq ho') hx hy
 ·by_cases hp:p∈acc
  ·rw [(inacc p o hp ho).2.prev] at hpr; cases hpr
  ·by_cases hq:q∈acc
   ·exact (FE sub put g hp ho hx hq hy).elim
   ·exact g.sup p q o o' b s tot s' tot' (outacc p o hp ho) hpr (outacc q o' hq ho') hx hy
 ·cases hx:AL p hs with
  | none=>rfl
  | some o'=>have:=hn p s tot hp; obtain ⟨o0,e0⟩:=sub.in_h hx; rw [e0] at this; cases this
 ·cases hx:AL p hf with
  | none=>rfl
  | some o =>
   exfalso
   by_cases hq:p∈acc
   ·obtain ⟨o',ho'⟩:=sub.has p hq
    obtain ⟨o0,e0⟩:=sub.in_h ho'
    rw [e0] at hn; cases hn
   ·rw [outacc p o hq hx] at hn; cases hn
theorem W4 (sub:Sub h hs acc) (put:PutOK h h1 acc hf) (g:Gam ρ B h n φ w) (f1:Fr hs h' φ φ' n n' w w') (g1:Gam ρ B h' n' φ' w') {x:Value} (r1:AG ρ φ' v x)
  (way:UV n v1 h1 acc m (.rv v h' n')) (hm:n.toN≤m.toN) {vf:V} {hff:Heap} {nf:K4} (hres:Vl n v1 h1 hf m = .rv vf hff nf) :
  ∃ φ'',Fr h hff φ φ'' n nf w w'∧Gam ρ B hff nf φ'' w'∧AG ρ φ'' vf x:=by
 obtain ⟨res,hacc,hn'⟩:=way
 obtain ⟨gb,fb⟩:=SD sub put g f1 g1 hacc hm
 have back:∀ p x,p.toN<n.toN->φ' p=some x->φ p=some x:=fun p x hp hx=>by
  rcases f1.new p x hx with h | ⟨h,_⟩
  ·exact h
  ·omega
 unfold Vl at hres
 rcases res with ⟨ho,e⟩ | ⟨ho,p,p',off,len,cap,ex,esz,e1,e2,hp,hp',heq,hold⟩
 ·subst e
  rw [ho] at hres
  have hres:R.rv v1 hf m=R.rv vf hff nf:=hres
  cases hres
  exact ⟨φ,fb,gb,Et back ho r1⟩
 ·rw [ho] at hres
  subst e1 e2
  have hres:(Bk p h1 fun o=>@Option.rec Ob (fun _=>R) (.fail "") (fun ob=>Bx m hf (some ob) fun hf=>m.nx fun m'=>.rv (.sl m off len cap ex esz) hf m') (IM n o)) = .rv vf hff nf:=hres
  rw [Bc] at hres
  cases hob:IM n (AL p h1) with
  | none=>rw [hob] at hres; cases hres
  | some ob =>
   rw [hob] at hres
   have hres:(Bx m hf (some ob) fun hf=>m.nx fun m'=>.rv (.sl m off len cap ex esz) hf m') = .rv vf hff nf:=hres
   rw [BD,Bt] at hres
   rcases K4.nx_eq m (fun m'=>.rv (.sl m off len cap ex esz) (B5 m hf (some ob)) m') with ⟨why,e⟩ | ⟨m',hm',e⟩
   ·rw [e] at hres; cases hres
   rw [e] at hres
   cases hres
   have hOld:=hold ob hob
   obtain ⟨obr,hob',hpv,hcl⟩:=Rb (heq ▸ hob)
   obtain ⟨b',s',tot',o,cap',hφ',gx,c1,c2,c3,c4⟩:=CJ r1
   have hmn:φ m=none:=by
    cases hx:φ m with
    | none=>rfl
    | some x=>have:=g.dom m x hx; omega
   have hoblk:=g1.blk p' b' s' tot' hφ'
   -- no object that was there lies in that block
   have apart:∀ q oq,AL q hf=some oq->∀ s tot,φ q=some (b',s,tot)->False:=fun q oq hq s tot hx=>by
    have hqn:=g.dom q _ hx
    have hne:p'≠q:=fun e=>by rw [e] at hp'; omega
    by_cases hqa:q∈acc
    ·rcases put.put q oq hq with ⟨_,a⟩ | ⟨a,_⟩
     ·have a':AL q h'=some oq:=(hacc q hqa).1 ▸ a
      rcases g1.sep p' q obr oq b' s' tot' s tot hne hob' a' hφ' (f1.ext _ _ hx) with e | e
      ·have:=hpv hOld.prev q e; omega
      ·rw [((hacc q hqa).2 oq a).prev] at e; cases e
     ·exact a hqa
    ·rcases f1.fresh p' b' s' tot' hφ' with h | h | ⟨r,sr,tr,hr,hne'⟩
     ·have:=g.dom p' _ h; omega
     ·have:=(g.blk q b' s tot hx).2; omega
     ·cases hx':AL r hs with
      | none=>exact hne' hx'
      | some o'=>exact FE sub put g hqa hq hx (sub.mem hx') hr
   refine ⟨E5 φ m (b',s',tot'),⟨B6.le_trans fb.ext (CN hmn),fun q y hy=>?_,by omega,fb.os,fb.tape,fb.out,fb.size,fb.old,fun q b s t hx=>?_,fun q hq hn=>?_⟩,⟨gb.base,fun q y hy=>?_,fun q b s t hy=>?_,fun q oq b s t hq hy=>?_,fun q r oq or b s t s2 t2 hne hq hr hx hy=>?_,fun q r oq or b s t s2 t2 hq hpr hr hx hy=>?_,gb.glob⟩,?_⟩
   ·rcases AW hy with ⟨rfl,_⟩ | ⟨_,hy⟩
    ·exact .inr ⟨hm,by omega⟩
    ·exact .inl hy
   ·rcases AW hx with ⟨rfl,e⟩ | ⟨_,hx⟩
    ·cases e
     rcases f1.fresh p' b' s' tot' hφ' with h | h | ⟨r,sr,tr,hr,hne'⟩
     ·have:=g.dom p' _ h; omega
     ·exact .inr (.inl h)
     ·refine .inr (.inr ⟨r,sr,tr,hr,?_⟩)
      cases hx':AL r hs with
      | none=>exact absurd hx' hne'
      | some o'=>obtain ⟨o0,e0⟩:=sub.in_h hx'; rw [e0]; simp
    ·exact .inl hx
   ·have hne:m≠q:=fun e=>hq (e ▸ hmn)
    rw [As _ _ hne]
    exact fb.dm q hq hn
   ·rcases AW hy with ⟨rfl,_⟩ | ⟨_,hy⟩
    ·omega
    ·have:=gb.dom q y hy; omega
   ·rcases AW hy with ⟨rfl,e⟩ | ⟨_,hy⟩
    ·cases e; exact hoblk
    ·exact gb.blk q b s t hy
   ·rcases AW hy with ⟨rfl,e⟩ | ⟨hne,hy⟩
    ·cases e
     rw [AF] at hq; cases hq
     refine Kp (φ1:=φ') (fun q y hq hy=>?_) hOld (hcl (g1.obj p' obr _ _ _ hob' hφ'))
     rw [GS fun e=>by subst e; omega]
     exact back q y hq hy
    ·rw [As _ _ hne] at hq
     exact DX (CN hmn) (gb.obj q oq b s t hq hy)
   ·rcases AW hx with ⟨rfl,e⟩ | ⟨hq',hx⟩
    ·cases e
     rcases AW hy with ⟨e,_⟩ | ⟨hr',hy⟩
     ·exact absurd e hne
     ·rw [As _ _ hr'] at hr
      exact (apart r or hr s2 t2 hy).elim
    ·rw [As _ _ hq'] at hq
     rcases AW hy with ⟨rfl,e⟩ | ⟨hr',hy⟩
     ·cases e
      exact (apart q oq hq s t hx).elim
     ·rw [As _ _ hr'] at hr
      exact gb.sep q r oq or b s t s2 t2 hne hq hr hx hy
   ·rcases AW hx with ⟨rfl,e⟩ | ⟨hq',hx⟩
    ·rw [AF] at hq; cases hq
     rw [hOld.prev] at hpr; cases hpr
    ·rw [As _ _ hq'] at hq
     rcases AW hy with ⟨rfl,e⟩ | ⟨hr',hy⟩
     ·cases e
      exact (apart q oq hq s t hx).elim
     ·rw [As _ _ hr'] at hr
      exact gb.sup q r oq or b s t s2 t2 hq hpr hr hx hy
   ·rw [gx]
    simp only [AG]
    exact ⟨b',s',tot',o,cap',BR _ _ _,rfl,c1,c2,c3,c4⟩
end
theorem Vp {f:FuncId} {run:Heap->R} {k:Nat} {args:List V} {h:Heap} {n:K4} {v:V} {h1:Heap} {n1:K4} (hr:Yg k run args h n = .rv v h1 n1) {φ:B6} {w:World} {xs:Array Value} (g:Gam ρ B h n φ w) (hxs:Bu ρ φ args xs.toList)
  (H:∀ (hs:Heap) (Φ:R->Prop),(run hs).sat Φ->Gam ρ B hs n φ w->HV P f xs w fun x w'=>∃ v h1 n1 φ',Φ (.rv v h1 n1)∧Fr hs h1 φ φ' n n1 w w'∧Gam ρ B h1 n1 φ' w'∧AG ρ φ' v x) :
  HV P f xs w fun x w'=>∃ φ',Fr h h1 φ φ' n n1 w w'∧Gam ρ B h1 n1 φ' w'∧AG ρ φ' v x:=by
 unfold Yg at hr
 obtain ⟨hs,acc,sub,e1⟩:=Er k (todo:=Rw args []) (κ:=fun hs acc=>Vw n h acc (run hs)) (Sub.nil (h:=h))
 rw [e1] at hr
 unfold Vw at hr
 obtain ⟨v1,hh1,e2⟩:=Jk (by rw [hr]; trivial)
 rw [e2] at hr
 obtain ⟨m,hm,sat,e3⟩:=Iy (by rw [hr]; trivial)
 rw [e3] at hr
 obtain ⟨hf,put,e4⟩:=KK (by rw [hr]; trivial)
 rw [e4] at hr
 have gs:Gam ρ B hs n φ w:=by
  refine ⟨g.base,g.dom,g.blk,fun p o b s tot hp hx=>?_,fun p q o o' b s tot s' tot' hne hp hq hx hy=>?_,fun p q o o' b s tot s' tot' hp hpr hq hx hy=>?_,g.glob⟩
  ·obtain ⟨o0,e0,rfl,_⟩:=sub.sub p o hp
   exact R0 (g.obj p o0 b s tot e0 hx)
  ·exfalso
   obtain ⟨o0,e0,_,g0,_⟩:=sub.sub p o hp
   obtain ⟨o1,e1,_,g1,_⟩:=sub.sub q o' hq
   have no:∀ (ob:Ob),Ec ob=true->Ip ob=true->False:=fun ob h1 h2=>by
    cases ob with
    | c cs sup prev =>
     cases sup with
     | true=>cases h1
     | false=>cases h2
    | _=>cases h2
   rcases g.sep p q o0 o1 b s tot s' tot' hne e0 e1 hx hy with h | h
   ·exact no o1 g1 (g.sup p q o0 o1 b s tot s' tot' e0 h e1 hx hy)
   ·exact no o0 g0 (g.sup q p o1 o0 b s' tot' s tot e1 h e0 hy hx)
  ·obtain ⟨o0,e0,rfl,_⟩:=sub.sub p o hp
   rw [GZ] at hpr; cases hpr
 intro o a K Q hK
 refine H hs _ sat gs o a K Q fun x w' ⟨v',h',n',φ',way,f1,g1,r1⟩=>hK x w' ?_
 exact W4 sub put g f1 g1 r1 way hm hr
end
end Go.Ev

namespace Go.Ev
set_option linter.unusedVariables false
open Go.RowKit
abbrev rdK (pb px:K2) (al bl:List AOp) (cf:FZ) (b x:V) (h:Heap) (n:K4):R :=
 CP [] cf al [(px,x),(pb,b)] Ez h n fun env t h n=>CP [] cf bl env t h n fun _ _ h n=>.rv (.bool true) h n
abbrev Rd:=FZ->V->V->Heap->K4->R
def MO (l:List Oper):Bool:=l.all fun o=>match o.op with | .defer _=>false | _=>true
theorem J3 {l:List Oper} (h:MO l=true):∀ o∈l,∀ c,o.op ≠ .defer c:=fun o ho c e=>by
 have:=List.all_eq_true.1 h o ho
 rw [e] at this; cases this
def QK:Code->Option (Array Oper)
 | .region _ ops false=>some ops
 | _=>none
def SS:Code->Option (Array Oper)
 | .block _ c=>QK c
 | _=>none
def S6 (P:Program) (A:ApC):Option Rd :=
 match QK A.asg,SS A.bod,K2.ofN A.par,K2.ofN A.box with
 | some oa,some ob,some px,some pb=>match Gi P A.ntm oa oa.toList,Gi P A.ntm ob ob.toList with
  | some al,some bl=>if G8 [] al [px,pb]&&(G8 [] bl (CI al [px,pb])&&(MO oa.toList&&(MO ob.toList&&(Nat.blt A.par A.ntm&&(Nat.blt A.box A.ntm && !(A.par == A.box)))))) then some (rdK pb px al bl) else none
  | _,_=>none
 | _,_,_,_=>none
theorem Kq {c:Code} {ops:Array Oper} (h:QK c=some ops):∃ i,c = .region i ops false:=by
 unfold QK at h
 split at h
 ·cases h; exact ⟨_,rfl⟩
 ·cases h
theorem PU {c:Code} {ops:Array Oper} (h:SS c=some ops):∃ i j,c = .block i (.region j ops false):=by
 unfold SS at h
 split at h
 ·obtain ⟨j,rfl⟩:=Kq h; exact ⟨_,j,rfl⟩
 ·cases h
def L3 (P:Program) (f:FuncId):Option ApC :=
 match P.funcs[f]? with
 | some fn=>match fn.body with
  | some (.seq (.region _ r0 false) (.seq (.seq (.region _ r1 false) (.block _ (.rangeFunc (.tmp s6) ps asg bod))) (.seq (.region _ r4 false) .ret))) =>
   match r0.toList,r1.toList,r4.toList,ps.toList,fn.results.toList with
   | [o1,o2],[o3],[o4,o5],[par],[.tmp s4]=>match o1.op,o2.op,o3.op,o4.op,o5.op with
    | .box _ (.tmp s0),.assign (.const c2),.move (.tmp s1),.load tL (.tmp s2),.assign (.tmp s12) =>
     if (fn.name == "runtime.NumGoroutine")=false∧fn.ntmps=13∧s6=6∧s4=4∧s0=0∧s1=1∧s2=2∧s12=12∧o1.dst=some 2∧o2.dst=some 4∧o3.dst=some 6∧o4.dst=some 12∧o5.dst=some 4 ∧
      o1.guard=none∧o2.guard=none∧o3.guard=none∧o4.guard=none∧o5.guard=none∧KY P tL=some false then some ⟨asg,bod,par,2,13⟩ else none
    | _,_,_,_,_=>none
   | _,_,_,_,_=>none
  | _=>none
 | none=>none
def Gc (l:List V) (κ:V->List V->R):R:=@List.rec V (fun _=>R) (.fail "") (fun x xs _=>κ x xs) l
def Oz (l:List V) (κ:R):R:=@List.rec V (fun _=>R) κ (C2 "") l
def P5 (v:V) (κ:R):R :=
 @V.rec (fun _=>R) (fun _=>Unit) (AV "") (Bb "") (AV "") (Dt "") (AV "") (AV "")
  (fun u=>@Nl.rec (fun _=>R) (.fail "") κ (.fail "") (.fail "") (.fail "") u) (Bb "") (C2 "") (AV "") (Bb "") () (fun _ _ _ _=>()) v
def SH (v:V) (κ:Nat->List V->R):R :=
 @V.rec (fun _=>R) (fun _=>Unit) (AV "") (Bb "") (AV "") (Dt "") (AV "") (AV "") (Bb "") (Bb "")
  (fun f caps _=>κ f caps) (AV "") (Bb "") () (fun _ _ _ _=>()) v
def Ym (o:Ch) (κ:R):R:=@Option.rec Ob (fun _=>R) (.fail "") (fun o=>@Ob.rec (fun _=>R) (C2 "") (C2 "") (Fp "") (.fail "") (fun _ _=>κ) o) o
def MA (g:Nat) (l:List Nat) (κ:R):R:=@List.rec Nat (fun _=>R) (.fail "") (fun x _ ih=>br (Nat.beq x g) κ ih) l
def W6 (f:Nat) (its:List Nat) (cf:FZ) (args:List V) (h:Heap) (n:K4):R :=
 Gc args fun v l=>Gc l fun s l=>Oz l (P5 v (SH s fun g caps=>MA g its
  (Bx n h (some (.c (.l [.nil .sl]) false none)) fun h=>n.nx fun n1=>Bx n1 h (some (.lp f n)) fun h=>n1.nx fun n2 =>
   Cx (cf (BC g) (.oth (.yl n1)::caps) h n2) fun _ h m =>
    Bk n1 h fun o=>Ym o (R2 n h fun cs _ _=>FY cs 0 fun sv=>Bx n h none fun h=>Bx n1 h none fun h=>.rv sv h m))))
section
variable {P:Program} {ρ:Env} {B:Nat} {h:Heap} {n:K4}
def UZ (φ:B6) (h:Heap) (l:Nat):Prop:=∀ q s tot,φ q=some (l,s,tot)->AL q h=none
theorem UZ.step {φ φ1:B6} {h1:Heap} {n1:K4} {w w1:World} {l:Nat} (u:UZ φ h l) (hl:l<w.heap.size) (f:Fr h h1 φ φ1 n n1 w w1):UZ φ1 h1 l:=fun q s tot hq=>by
 rcases f.fresh q l s tot hq with e | e | ⟨r,s',tot',hr,hne⟩
 ·exact f.dm q (by rw [e]; simp) (u q s tot e)
 ·omega
 ·exact absurd (u r s' tot' hr) hne
theorem Gam.poke {φ:B6} {w:World} (g:Gam ρ B h n φ w) {l:Nat} (u:UZ φ h l) (O:Obj) (hno:∀ c e fr,w.heap[l]? ≠ some (.cells c e fr)):Gam ρ B h n φ (w.putObj l O) where
 glob:=fun k c e fr hk=>⟨(g.glob k c e fr hk).1,by rw [World.putObj_heap_other (fun e'=>by subst e'; exact hno _ _ _ (g.glob _ c e fr hk).2)]; exact (g.glob k c e fr hk).2⟩
 base:=by rw [World.putObj_size]; exact g.base
 dom:=g.dom
 blk:=fun p b s t hp=>by rw [World.putObj_size]; exact g.blk p b s t hp
 obj:=fun p o b s t hp hφ=>by
  refine Ca (World.putObj_heap_other fun e=>?_) (g.obj p o b s t hp hφ)
  subst e
  rw [u p s t hφ] at hp; cases hp
 sep:=g.sep
 sup:=g.sup
theorem Fr.around {h1:Heap} {n1:K4} {φ φ1:B6} {w W:World} {l:Nat} {O O0:Obj} (hl:w.heap[l]? = some O0) (f:Fr h h1 φ φ1 n n1 (w.putObj l O) W):Fr h h1 φ φ1 n n1 w (W.putObj l O0):=by
 have hlt:l<w.heap.size:=by
  rcases Nat.lt_or_ge l w.heap.size with e | e
  ·exact e
  ·rw [Array.getElem?_eq_none e] at hl; cases hl
 have hs:=f.size
 rw [World.putObj_size] at hs
 refine ⟨f.ext,f.new,f.nn,f.os,f.tape,f.out,by rw [World.putObj_size]; exact hs,fun b hb hn=>?_,fun q b s t hq=>?_,f.dm⟩
 ·by_cases e:b=l
  ·subst e; rw [World.putObj_heap_same (by omega),hl]
  ·rw [World.putObj_heap_other e,f.old b (by rw [World.putObj_size]; exact hb) hn,World.putObj_heap_other e]
 ·have:=f.fresh q b s t hq
  rwa [World.putObj_size] at this
theorem Fr.poke {h1:Heap} {n1:K4} {φ φ1:B6} {w W:World} {l:Nat} (O:Obj) (hl:w.heap.size≤l) (f:Fr h h1 φ φ1 n n1 w W):Fr h h1 φ φ1 n n1 w (W.putObj l O) :=
 ⟨f.ext,f.new,f.nn,f.os,f.tape,f.out,by rw [World.putObj_size]; exact f.size,fun b hb hn=>by rw [World.putObj_heap_other (by omega)]; exact f.old b hb hn,f.fresh,f.dm⟩
def U8:Regs:=Regs.all (VP.all (.oth .any))
theorem RR (p:K2):Bi p U8 = .oth .any:=by simp only [Bi,U8,Regs.sel_all,VP.sel_all]
theorem XT (hρ:Bq ρ) {cf:CF} {cf2:FZ} (hcf:DU P ρ B cf) (h2:∀ f,cf2 (BC f)=cf f) {A:ApC} {rd:Rd} (hrd:S6 P A=some rd) {fn:FuncId} {box:K4} {x:V} {Φ:R->Prop}
  (hs:(rd cf2 (.ptr box 0) x h n).sat Φ) {φ:B6} {w:World} {tmps:Array Value} {X:Value} {l D:Nat} (g:Gam ρ B h n φ w) (hl:w.heap[l]? = some (.loop (F7 A fn tmps D))) (u:UZ φ h l)
  (hsz:tmps.size=A.ntm) (hbox:AG ρ φ (.ptr box 0) (tmps.getD A.box undef)) (hX:AG ρ φ x X) :
  RoundIn Fence.wide 0 P l fn (tmps.setIfInBounds A.par X) A.asg A.bod w fun e w'=>e = .returned (.bool true) ∧
   ∃ v h1 n1 φ',v = .bool true∧Φ (.rv v h1 n1)∧Fr h h1 φ φ' n n1 w w'∧Gam ρ B h1 n1 φ' w':=by
 unfold S6 at hrd
 split at hrd
 ·rename_i oa ob px pb ha hb hpx hpb
  split at hrd
  ·rename_i al bl hal hbl
   split at hrd
   ·rename_i hok
    cases hrd
    simp only [Bool.and_eq_true,Nat.blt_eq] at hok
    obtain ⟨ok1,ok2,nd1,nd2,lt1,lt2,hne⟩:=hok
    have hne:A.par≠A.box:=by simpa using hne
    obtain ⟨i,hasg⟩:=Kq ha
    obtain ⟨j,k,hbod⟩:=PU hb
    have hlt:l<w.heap.size:=by
     rcases Nat.lt_or_ge l w.heap.size with e | e
     ·exact e
     ·rw [Array.getElem?_eq_none e] at hl; cases hl
    have hpp:px≠pb:=fun e=>hne (K2.ofN_inj hpx (e ▸ hpb))
    have ri:RI [] [px,pb] [(px,x),(pb,.ptr box 0)] (DH px (DH pb U8 (.ptr box 0)) x) Ez:=by
     refine ⟨fun h=>(by cases h),fun p v hp=>?_,fun p hp=>?_,fun p s h=>(by cases h)⟩
     ·by_cases e:px=p
      ·subst e; rw [Dm] at hp; cases hp; exact Be _ _ _
      ·rw [FI e] at hp
       rw [Bv _ _ e]
       by_cases e':pb=p
       ·subst e'; rw [Dm] at hp; cases hp; exact Be _ _ _
       ·rw [FI e'] at hp; simp [EX] at hp
     ·by_cases e:px=p
      ·subst e; exact ⟨x,Dm⟩
      ·rw [FI e]
       by_cases e':pb=p
       ·subst e'; exact ⟨_,Dm⟩
       ·simp at hp; rcases hp with hp | hp
        ·exact absurd hp.symm e
        ·exact absurd hp.symm e'
    have hT:TR ρ A.ntm φ (DH px (DH pb U8 (.ptr box 0)) x) { tmps:=tmps.setIfInBounds A.par X,defers:=[] }:={
     size:=by simp [hsz]
     defers:=rfl
     at_:=fun s p hs hp=>by
      show AG ρ φ _ ((tmps.setIfInBounds A.par X).getD s undef)
      by_cases e:A.par=s
      ·subst e
       rw [hpx] at hp; cases hp
       rw [Be,Array.getD_eq_getD_getElem?,Array.getElem?_setIfInBounds_self_of_lt (by omega)]
       exact hX
      ·rw [Bv _ _ (fun e'=>e (K2.ofN_inj hpx (by rw [e']; exact hp))),Array.getD_eq_getD_getElem?,Array.getElem?_setIfInBounds_ne e,←Array.getD_eq_getD_getElem?]
       by_cases e2:A.box=s
       ·subst e2
        rw [hpb] at hp; cases hp
        rw [Be]; exact hbox
       ·rw [Bv _ _ (fun e'=>e2 (K2.ofN_inj hpb (by rw [e']; exact hp))),RR]
        simp only [AG] }
    have hs:(CP [] cf2 al [(px,x),(pb,.ptr box 0)] Ez h n fun env t h n=>CP [] cf2 bl env t h n fun _ _ h n=>.rv (.bool true) h n).sat Φ:=hs
    obtain ⟨env1,t1,t1',h1,n1,e1,ri1,H1⟩:=Dp (B:=B) (ops:=oa) hρ hcf h2 hal ok1 ri (R.sat_good hs)
    rw [e1] at hs
    obtain ⟨env2,t2,t2',h2',n2,e2,ri2,H2⟩:=Dp (B:=B) (ops:=ob) hρ hcf h2 hbl ok2 ri1 (R.sat_good hs)
    rw [e2] at hs
    have hs:Φ (.rv (.bool true) h2' n2):=hs
    refine roundIn_of_wpIn trivial ?_
    rw [hasg,hbod]
    have c1:=DK (l:=some l) (n:=0) (r:=[]) (.inr (J3 nd1)) (H1 φ _ w hT g (Exit.then (fun a₁ w₁=>∃ w₂,(Instr.beginRound l).run P w₁ = .ok () w₂∧(Code.block j (.region k ob false)).wpIn (Fence.wide.inRound l) 0 P (roundPost P l (fun e w'=>e = .returned (.bool true) ∧
      ∃ v h1 n1 φ',v = .bool true∧Φ (.rv v h1 n1)∧Fr h h1 φ φ' n n1 w w'∧Gam ρ B h1 n1 φ' w')) a₁ w₂) (fun _ _ _=>False)) (wpListIn (Ly (some l)) 0 P oa _ []) fun φ1 a1 w1 f1 g1 T1=>wpListIn_nil (F:=Ly (some l)) ?_)
    ·rw [List.append_nil] at c1
     exact wpIn_region_list c1
    ·have u1:=u.step hlt f1
     have hl1:w1.heap[l]? = some (.loop (F7 A fn tmps D)):=(f1.old l hlt u).trans hl
     refine ⟨_,run_beginRound hl1 rfl,wpIn_block (wpIn_region_list ?_)⟩
     have g1':=g1.poke u1 (.loop { F7 A fn tmps D with state:=.busy }) (fun c e fr h=>by rw [hl1] at h; cases h)
     have c2:=DK (l:=some l) (n:=0) (r:=[]) (.inr (J3 nd2)) (H2 φ1 a1 _ T1 g1' (Exit.inBlock j (roundPost P l (fun e w'=>e = .returned (.bool true) ∧
      ∃ v h1 n1 φ',v = .bool true∧Φ (.rv v h1 n1)∧Fr h h1 φ φ' n n1 w w'∧Gam ρ B h1 n1 φ' w'))) (wpListIn (Ly (some l)) 0 P ob _ []) fun φ2 a2 w2 f2 g2 T2=>wpListIn_nil (F:=Ly (some l)) ?_)
     ·rw [List.append_nil] at c2; exact c2
     ·have hlt1:l<(w1.putObj l (.loop { F7 A fn tmps D with state:=.busy })).heap.size:=by rw [World.putObj_size]; have:=f1.size; omega
      have u2:=u1.step hlt1 f2
      have hl2:w2.heap[l]? = some (.loop { F7 A fn tmps D with state:=.busy }):=(f2.old l hlt1 u1).trans (World.putObj_heap_same (by rwa [World.putObj_size] at hlt1))
      exact ⟨_,_,run_endRound none hl2,rfl,_,h2',n2,φ2,rfl,hs,Fr.trans f1 (f2.around hl1),g2.poke u2 _ (fun c e fr h=>by rw [hl2] at h; cases h)⟩
   ·cases hrd
  ·cases hrd
 ·cases hrd
def JF (P:Program) (g:FuncId):Prop:=∃ fn c,P.funcs[g]? = some fn∧fn.body=some c∧(fn.name == "runtime.NumGoroutine")=false
theorem Dz {l:List V} {κ:V->List V->R} (hg:(Gc l κ).good):∃ x xs,l=x::xs∧Gc l κ=κ x xs:=by
 cases l with
 | nil=>exact hg.elim
 | cons x xs=>exact ⟨x,xs,rfl,rfl⟩
theorem Gq {l:List V} {κ:R} (hg:(Oz l κ).good):l=[]∧Oz l κ=κ:=by
 cases l with
 | nil=>exact ⟨rfl,rfl⟩
 | cons x xs=>exact hg.elim
theorem OD {v:V} {κ:R} (hg:(P5 v κ).good):v = .nil .sl∧P5 v κ=κ:=by
 cases v with
 | nil u=>cases u with
  | sl=>exact ⟨rfl,rfl⟩
  | _=>exact hg.elim
 | _=>exact hg.elim
theorem Pi {v:V} {κ:Nat->List V->R} (hg:(SH v κ).good):∃ f l,v = .fn f l∧SH v κ=κ f l:=by
 cases v with
 | fn f l=>exact ⟨f,l,rfl,rfl⟩
 | _=>exact hg.elim
theorem T5 {o:Ch} {κ:R} (hg:(Ym o κ).good):(∃ f b,o=some (.lp f b))∧Ym o κ=κ:=by
 cases o with
 | none=>exact hg.elim
 | some ob=>cases ob with
  | lp f b=>exact ⟨⟨f,b,rfl⟩,rfl⟩
  | _=>exact hg.elim
theorem JV {g:Nat}:∀ {l:List Nat} {κ:R},(MA g l κ).good->g∈l∧MA g l κ=κ
 | [],κ,hg=>hg.elim
 | x::l,κ,hg=>by
  have hg:R.good (br (Nat.beq x g) κ (MA g l κ)):=hg
  show _∧br (Nat.beq x g) κ (MA g l κ)=κ
  cases hb:Nat.beq x g with
  | true=>exact ⟨by rw [Nat.eq_of_beq_eq_true hb]; exact List.mem_cons_self ..,rfl⟩
  | false =>
   rw [hb] at hg
   obtain ⟨h1,h2⟩:=JV (show R.good (MA g l κ) from hg)
   exact ⟨List.mem_cons_of_mem _ h1,h2⟩
theorem BN {o:Oper} {a:Act} {w w':World} {x:Value} {K:Act->World->Prop} {Q:Exit->Act->World->Prop} (hr:(execOp a.eval o).run P w = .ok (.value x) w') (hK:K (a.put o.dst x) w'):o.wpIn Fence.wide 0 P a w K Q :=
 Qh (l:=none) (.inl rfl) (fun _ _ h=>h) (show o.wp P a w K Q by unfold Oper.wp; rw [hr]; exact hK)
theorem Xq {f:FuncId} {its:List Nat} {A:ApC} (hA:ρ.ap f=some A) (hsh:L3 P f=some A) (hits:∀ g∈its,JF P g) {cf:CF} {cf2:FZ} (hcf:Gn P ρ B cf) (h2:∀ f,cf2 (BC f)=cf f) {args:List V} {Φ:R->Prop}
  (hr:(W6 f its cf2 args h n).sat Φ) {φ:B6} {w:World} {xs:Array Value} (g:Gam ρ B h n φ w) (hxs:Bu ρ φ args xs.toList) :
  HV P f xs w fun x w'=>∃ v h1 n1 φ',Φ (.rv v h1 n1)∧Fr h h1 φ φ' n n1 w w'∧Gam ρ B h1 n1 φ' w'∧AG ρ φ' v x:=by
 unfold L3 at hsh
 split at hsh
 next fn hfn =>
  split at hsh
  next i0 r0 i1 r1 b0 s6 ps asg bod i4 r4 hbody =>
   split at hsh
   next o1 o2 o3 o4 o5 par s4 e0 e1 e4 eps ers =>
    split at hsh
    next tS s0 c2 s1 tL s2 s12 p1 p2 p3 p4 p5 =>
     split at hsh
     next hc =>
      obtain ⟨hname,hnt,rfl,rfl,rfl,rfl,rfl,rfl,d1,d2,d3,d4,d5,g1,g2,g3,g4,g5,hagg⟩:=hc
      cases hsh
      have hname:(fn.name == "runtime.NumGoroutine")=false:=hname
      -- the arguments
      unfold W6 at hr
      obtain ⟨v,l,rfl,q1⟩:=Dz (R.sat_good hr)
      rw [q1] at hr
      obtain ⟨s,l,rfl,q2⟩:=Dz (R.sat_good hr)
      rw [q2] at hr
      obtain ⟨rfl,q3⟩:=Gq (R.sat_good hr)
      rw [q3] at hr
      obtain ⟨rfl,q4⟩:=OD (R.sat_good hr)
      rw [q4] at hr
      obtain ⟨it,caps,rfl,q5⟩:=Pi (R.sat_good hr)
      rw [q5] at hr
      obtain ⟨hmem,q6⟩:=JV (R.sat_good hr)
      rw [q6,BD,Bt] at hr
      rcases K4.nx_eq n _ with ⟨m,e⟩ | ⟨n1,hn1,e⟩
      ·rw [e] at hr; exact hr.elim
      rw [e,BD,Bt] at hr
      rcases K4.nx_eq n1 _ with ⟨m,e⟩ | ⟨n2,hn2,e'⟩
      ·rw [e] at hr; exact hr.elim
      rw [e'] at hr
      have hr:=DW hr
      rw [h2] at hr
      obtain ⟨X0,l0,hx0,r0',hl0⟩:=AE.1 hxs
      obtain ⟨X1,l1,rfl,r1',hl1⟩:=AE.1 hl0
      have hl1:=AR.1 hl1
      subst hl1
      have hX0:=BW r0'
      obtain ⟨cs,hX1,rcs⟩:=IA r1'
      have hps:ps = #[par]:=by cases ps; simp at eps; rw [eps]
      have hres:fn.results = #[.tmp 4]:=by cases hh:fn.results with | mk l=>rw [hh] at ers; simp at ers; rw [ers]
      -- the box
      obtain ⟨ga,fa⟩:=Cu g (n':=n1) hn1 (e:=tS) (fr:=(0,0)) (c:=#[X0]) (cs:=.l [.nil .sl]) (by simp [Cs.len]) (Jv _)
       (by have:=DJ (ρ:=ρ) (φ:=φ) (l:=[.nil .sl]) (xs:=[X0]) (AE.2 ⟨X0,[],rfl,r0',AR.2 rfl⟩) (by simp [hX0,C7,Value.oneCell']); simpa using this)
      generalize hW0:w.alloc (.cells #[X0] tS (0,0))=W0 at ga fa
      have hb0:W0.heap[w.heap.size]? = some (.cells #[X0] tS (0,0)):=by rw [←hW0]; exact World.alloc_heap_new w _
      have gb:=ga.push (.deferred (some []))
      have fb:=Fr.trans fa (Fr.push (h:=B5 n h (some (.c (.l [.nil .sl]) false none))) (n:=n1) (φ:=E5 φ n (w.heap.size,0,(#[X0]:Array Value).size)) (.deferred (some [])))
      have hs0:W0.heap.size=w.heap.size+1:=by rw [←hW0,World.size_alloc]
      generalize htm:((((#[X0,X1]:Array Value)++Array.replicate (fn.ntmps - 2) undef).setIfInBounds 2 (.pointer (some ⟨w.heap.size,0,none⟩))).setIfInBounds 4 c2).setIfInBounds 6 X1=tm
      have htsz:tm.size=13:=by rw [←htm,hnt]; simp
      have ht2:tm.getD 2 undef = .pointer (some ⟨w.heap.size,0,none⟩):=by rw [←htm,hnt]; simp [Array.getD_eq_getD_getElem?]
      have ht6:tm.getD 6 undef=X1:=by rw [←htm,hnt]; simp [Array.getD_eq_getD_getElem?]
      intro o a K Q hK
      have hcf':(callFunc f #[X0,X1]).run P w = .ok (.enter f #[X0,X1]) w:=by
       have hname':fn.name ≠ "runtime.NumGoroutine":=by simpa using hname
       simp [callFunc,hfn,hname',hbody]
      have hxe:xs = #[X0,X1]:=by cases xs; simp at hx0; rw [hx0]
      rw [hxe,hcf']
      refine (callsIn_wide (n:=0)).1 (callsIn_of_wp_marks hfn hbody trivial ?_ rfl)
      have ev0:Act.eval { tmps:=(#[X0,X1]:Array Value)++Array.replicate (fn.ntmps - (#[X0,X1]:Array Value).size) undef,defers:=[] } (.tmp 0)=X0:=by
       simp [Act.eval,Array.getD_eq_getD_getElem?,Array.getElem?_append]
      have hcl:X0.cells = #[X0]:=by rw [hX0]; rfl
      refine wpIn_seq (wpIn_region_list ?_)
      rw [e0]
      refine wpListIn_plain g1 fun K1 hK1=>BN (x:=.pointer (some ⟨w.heap.size,0,none⟩)) (w':=W0) (by rw [←hW0]; simp only [execOp,p1,ev0]; simp [Instr.box,newVar,EL,hcl]) (hK1 _ _ ?_)
      refine wpListIn_plain g2 fun K2 hK2=>BN (x:=c2) (w':=W0) (by simp [execOp,p2,Act.eval]) (hK2 _ _ ?_)
      refine wpListIn_nil ?_
      refine wpIn_seq (wpIn_seq (wpIn_region_list ?_))
      rw [e1]
      refine wpListIn_plain g3 fun K3 hK3=>BN (x:=X1) (w':=W0) (by simp only [execOp,p3,Act.eval,Act.put,d1,d2,hnt]; simp [Array.getD_eq_getD_getElem?,Array.getElem?_setIfInBounds]) (hK3 _ _ ?_)
      refine wpListIn_nil ?_
      refine wpIn_block (wpIn_rangeFunc fun fn' _=>?_)
      have hact:((({ tmps:=(#[X0,X1]:Array Value)++Array.replicate (fn.ntmps - (#[X0,X1]:Array Value).size) undef,defers:=[] }:Act).put o1.dst (.pointer (some ⟨w.heap.size,0,none⟩))).put o2.dst c2).put o3.dst X1={ tmps:=tm,defers:=[] }:=by
       rw [d1,d2,d3,←htm]; rfl
      rw [hact]
      generalize hWb:W0.alloc (.deferred (some []))=Wb at gb fb
      have hsb:Wb.heap.size=w.heap.size+2:=by rw [←hWb,World.size_alloc,hs0]
      have hDb:Wb.heap[w.heap.size+1]? = some (.deferred (some [])):=by rw [←hWb,←hs0]; exact World.alloc_heap_new _ _
      have hn1':E5 φ n (w.heap.size,0,(#[X0]:Array Value).size) n1=none:=gb.at_n
      have gc:=gb.alloc (p:=n1) (n':=n2) hn1' (by omega) (by omega) (.lp f n) rfl (.loop (F7 ⟨asg,bod,par,2,13⟩ fn' tm W0.heap.size)) 0
       (fun φ' hle w' hw'=>⟨rfl,⟨asg,bod,par,2,13⟩,fn',tm,W0.heap.size,hA,hw',htsz,by rw [ht2]; exact EF hle CU⟩)
      have fc:=Fr.trans fb (Fr.alloc (h:=B5 n h (some (.c (.l [.nil .sl]) false none))) (w:=Wb) (n:=n1) (n':=n2) (p:=n1) hn1' (by omega) (Nat.le_refl _) (by omega) (some (.lp f n)) (.loop (F7 ⟨asg,bod,par,2,13⟩ fn' tm W0.heap.size)) 0)
      generalize hWc:Wb.alloc (.loop (F7 ⟨asg,bod,par,2,13⟩ fn' tm W0.heap.size))=Wc at gc fc
      have hsc:Wc.heap.size=w.heap.size+3:=by rw [←hWc,World.size_alloc,hsb]
      have hDc:Wc.heap[w.heap.size+1]? = some (.deferred (some [])):=by rw [←hWc,Below.heap_alloc _ _ _ (by omega)]; exact hDb
      have hφn:φ n=none:=g.at_n
      have hφn1:φ n1=none:=by
       cases hx:φ n1 with
       | none=>rfl
       | some x=>have:=g.dom n1 x hx; omega
      generalize hφc:E5 (E5 φ n (w.heap.size,0,(#[X0]:Array Value).size)) n1 (Wb.heap.size,0,0)=φc at gc fc
      have hcn1:φc n1=some (w.heap.size+2,0,0):=by rw [←hφc,BR,hsb]
      have hnn:n1≠n:=fun e=>by rw [e] at hn1; omega
      have hcn:φc n=some (w.heap.size,0,1):=by rw [←hφc,GS hnn,BR]; rfl
      have huD:UZ φc (B5 n1 (B5 n h (some (.c (.l [.nil .sl]) false none))) (some (.lp f n))) (w.heap.size+1):=fun q s tot hq=>by
       rw [←hφc] at hq
       rcases AW hq with ⟨_,e⟩ | ⟨_,hq⟩
       ·simp only [Prod.mk.injEq] at e; omega
       ·rcases AW hq with ⟨_,e⟩ | ⟨_,hq⟩
        ·simp only [Prod.mk.injEq] at e; omega
        ·have:=(g.blk q _ _ _ hq).2; omega
      obtain ⟨fng,cg,hg1,hg2,hg3⟩:=hits it hmem
      have call:=Hh hg1 hg2 (by simpa using hg3) (hcf it _ _ n2 _ hr φc Wc (#[.func (.yield (w.heap.size+2)) #[] #[]]++cs) gc (by
       rw [Array.toList_append]
       exact AE.2 ⟨_,cs.toList,rfl,by simp only [AG]; exact ⟨_,_,_,hcn1,rfl⟩,by rw [←hφc]; exact Fq (B6.le_trans (CN hφn) (CN hn1')) rcs⟩))
      refine ⟨w.heap.size+2,[{ target:=.collected (w.heap.size+1),args:=#[] }],Wc,{ target:=.fn (.func it) cs,args:=#[.func (.yield (w.heap.size+2)) #[] #[]] },Wc,it,#[.func (.yield (w.heap.size+2)) #[] #[]]++cs,Wc,?_,?_,?_,?_,fun h=>(by cases h),?_⟩
      ·have:=run_enterLoop_outer (P:=P) (w:=W0) fn' tm ps asg bod
       rw [hs0] at this
       show (Instr.enterLoop fn' tm ps asg bod none).run P W0=_
       rw [this,hWb,hps,←hWc,hs0]; rfl
      ·have e6:Act.eval { tmps:=tm,defers:=[] } (.tmp 6) = .func (.func it) #[] cs:=by show tm.getD 6 undef=_; rw [ht6,hX1]
       simp only [resolve,rangeCall,e6,Deferred.ofValue]
       simp [Act.eval]
      ·intro _ _; trivial
      ·simp [invoke,callFunc,hg1,hg2,show fng.name ≠ "runtime.NumGoroutine" by simpa using hg3]
      ·refine (callsIn_wide (n:=0)).2 (call.mono fun e w3 he=>?_)
       cases e with
       | panicked c=>exact he.elim
       | outgrown=>exact he.elim
       | returned u =>
       obtain ⟨v,h3,n3,φ3,hΦ,f3,g3',_⟩:∃ v h1 n1 φ',V2 _ Φ (.rv v h1 n1)∧Fr _ h1 φc φ' n2 n1 Wc w3∧Gam ρ B h1 n1 φ' w3∧AG ρ φ' v u:=he
       have hΦ:(Bk n1 h3 fun o=>Ym o (R2 n h3 fun cs _ _=>FY cs 0 fun sv=>Bx n h3 none fun h=>Bx n1 h none fun h=>.rv sv h n3)).sat Φ:=hΦ
       rw [Bc] at hΦ
       obtain ⟨⟨f',b',hlp⟩,q7⟩:=T5 (R.sat_good hΦ)
       rw [q7,GA] at hΦ
       obtain ⟨cs3,sup3,prev3,hbx,q8⟩:=CS (R.sat_good hΦ)
       rw [q8] at hΦ
       obtain ⟨sv,hsv,q9⟩:=GU (R.sat_good hΦ)
       rw [q9,BD,Bt,BD,Bt] at hΦ
       have hΦ:Φ (.rv sv (B5 n1 (B5 n h3 none) none) n3):=hΦ
       have h3n:=f3.ext _ _ hcn
       have h3n1:=f3.ext _ _ hcn1
       obtain ⟨_,A3,fn3,tm3,D3,_,hrec,_,_⟩:=g3'.obj n1 _ _ _ _ hlp h3n1
       obtain ⟨c3,e3,fr3,k1,k2,k3,k4,k5⟩:=g3'.obj n _ _ _ _ hbx h3n
       obtain ⟨SV,hSV,rSV,_⟩:=k5 0 sv hsv
       have hD3:w3.heap[w.heap.size+1]? = some (.deferred (some [])):=(f3.old _ (by omega) huD).trans hDc
       have uD3:=huD.step (by omega) f3
       have ul3:UZ φ3 (B5 n1 (B5 n h3 none) none) (w.heap.size+2):=fun q s tot hq=>by
        by_cases e:n1=q
        ·subst e; exact AF _ _ _
        ·rw [As _ _ e]
         by_cases e':n=q
         ·subst e'; exact AF _ _ _
         ·rw [As _ _ e']
          cases hq':AL q h3 with
          | none=>rfl
          | some o2 =>
           rcases g3'.sep n1 q _ o2 _ _ _ s tot e hlp hq' h3n1 hq with e2 | e2
           ·cases e2
           ·have:=g3'.sup q n1 o2 _ _ s tot _ _ hq' e2 hlp hq h3n1; cases this
       refine ⟨none,w3.putObj (w.heap.size+2) (.loop { F7 A3 fn3 tm3 D3 with state:=.exhausted }),run_endLoop hrec (by simp),?_⟩
       refine wpIn_seq (wpIn_region_list ?_)
       rw [e4]
       generalize hw4:w3.putObj (w.heap.size+2) (.loop { F7 A3 fn3 tm3 D3 with state:=.exhausted })=w4
       have hb4:w4.heap[w.heap.size]? = some (.cells c3 e3 fr3):=by rw [←hw4,World.putObj_heap_other (by omega)]; exact k1
       have hD4:w4.heap[w.heap.size+1]? = some (.deferred (some [])):=by rw [←hw4,World.putObj_heap_other (by omega)]; exact hD3
       have hld:(execOp (Act.eval { tmps:=tm,defers:=[{ target:=.collected (w.heap.size+1),args:=#[] }]++[] }) o4).run P w4 = .ok (.value SV) w4:=by
        have e2:Act.eval { tmps:=tm,defers:=[{ target:=.collected (w.heap.size+1),args:=#[] }]++[] } (.tmp 2) = .pointer (some ⟨w.heap.size,0,none⟩):=ht2
        simp only [execOp,p4,e2]
        simp [Instr.loadAt,Instr.sureAddr,loadVar,CE hagg,GY hb4 hSV]
       refine wpListIn_plain g4 fun K4 hK4=>BN hld (hK4 _ _ ?_)
       refine wpListIn_plain g5 fun K5 hK5=>BN (x:=SV) (w':=w4) (by
        simp only [execOp,p5,Act.eval,Act.put,d4]; simp [Array.getD_eq_getD_getElem?,htsz]) (hK5 _ _ ?_)
       refine wpListIn_nil (wpIn_ret ?_)
       have take:=run_takeDeferred (P:=P) hD4
       rw [d4,d5]
       show LeavesInM Fence.wide 0 P fn _ _ [{ target:=.collected (w.heap.size+1),args:=#[] }] .returning w4
       unfold LeavesInM
       refine ⟨(by intro h; cases h),.inl ⟨w.heap.size+1,_,rfl,take,?_⟩⟩
       unfold LeavesInM LeavesIn
       refine ⟨SV,?_,?_⟩
       ·simp [results,hres,Act.put,htsz,Array.getD_eq_getD_getElem?]
       ·have hna:∀ q,φ q≠none->AL q (B5 n1 (B5 n h3 none) none)=AL q h3:=fun q hq=>by
         rw [As _ _ (fun e:n1=q=>hq (by rw [←e]; exact hφn1)),As _ _ (fun e:n=q=>hq (by rw [←e]; exact hφn))]
        have fz:=((Fr.trans fc f3).show hna).poke (l:=w.heap.size+2) (.loop { F7 A3 fn3 tm3 D3 with state:=.exhausted }) (by omega)
        have gz:=(g3'.aside (p:=n)).aside (p:=n1)
        have gz:=gz.poke ul3 (.loop { F7 A3 fn3 tm3 D3 with state:=.exhausted }) (fun c e fr h=>by rw [hrec] at h; cases h)
        rw [hw4] at fz gz
        have uDz:UZ φ3 (B5 n1 (B5 n h3 none) none) (w.heap.size+1):=fun q s tot hq=>by
         by_cases e:n1=q
         ·subst e; exact AF _ _ _
         ·rw [As _ _ e]
          by_cases e':n=q
          ·subst e'; exact AF _ _ _
          ·rw [As _ _ e']; exact uD3 q s tot hq
        exact hK SV _ ⟨sv,_,n3,φ3,hΦ,fz.poke _ (by omega),gz.poke uDz _ (fun c e fr h=>by rw [hD4] at h; cases h),rSV⟩
     next=>cases hsh
    next=>cases hsh
   next=>cases hsh
  next=>cases hsh
 next=>cases hsh
end
end Go.Ev

namespace Go.Ev
set_option linter.unusedVariables false
inductive Ent where
 | code (entry:List V->(S->R)->R) (body:FZ->S->Heap->K4->R) (res:S->Heap->K4->R)
 | prim (p:Im)
 | br (k:Nat) (entry:List V->(S->R)->R) (body:FZ->S->Heap->K4->R) (res:S->Heap->K4->R)
 | ap (f:Nat) (its:List Nat) (rd:Rd)
 | tree (p:Im)
abbrev D7:=Option Ent
def Ent.toBr (k:Nat) (e:Ent):Ent:=@Ent.rec (fun _=>Ent) (fun en bo re=>.br k en bo re) (fun p=>.prim p) (fun k en bo re=>.br k en bo re) (fun f its rd=>.ap f its rd) (fun p=>.tree p) e
inductive FA where
 | mk (A B C E F G I J L M N O P Q T U:D7)
def FA.sel (d:D) (p:FA):D7 :=
 @FA.rec (fun _=>D7) (fun A B C E F G I J L M N O P Q T U=>@D.rec (fun _=>D7) A B C E F G I J L M N O P Q T U d) p
def Abb (p:FA) (k:D7->R):R:=@FA.rec (fun _=>R) (fun A B C E F G I J L M N O P Q T U=>k A) p
def Aab (p:FA) (k:D7->R):R:=@FA.rec (fun _=>R) (fun A B C E F G I J L M N O P Q T U=>k B) p
def Abo (p:FA) (k:D7->R):R:=@FA.rec (fun _=>R) (fun A B C E F G I J L M N O P Q T U=>k C) p
def Aba (p:FA) (k:D7->R):R:=@FA.rec (fun _=>R) (fun A B C E F G I J L M N O P Q T U=>k E) p
def Yw (p:FA) (k:D7->R):R:=@FA.rec (fun _=>R) (fun A B C E F G I J L M N O P Q T U=>k F) p
def Abw (p:FA) (k:D7->R):R:=@FA.rec (fun _=>R) (fun A B C E F G I J L M N O P Q T U=>k G) p
def Aan (p:FA) (k:D7->R):R:=@FA.rec (fun _=>R) (fun A B C E F G I J L M N O P Q T U=>k I) p
def Zl (p:FA) (k:D7->R):R:=@FA.rec (fun _=>R) (fun A B C E F G I J L M N O P Q T U=>k J) p
def Abh (p:FA) (k:D7->R):R:=@FA.rec (fun _=>R) (fun A B C E F G I J L M N O P Q T U=>k L) p
def YU (p:FA) (k:D7->R):R:=@FA.rec (fun _=>R) (fun A B C E F G I J L M N O P Q T U=>k M) p
def XI (p:FA) (k:D7->R):R:=@FA.rec (fun _=>R) (fun A B C E F G I J L M N O P Q T U=>k N) p
def XD (p:FA) (k:D7->R):R:=@FA.rec (fun _=>R) (fun A B C E F G I J L M N O P Q T U=>k O) p
def XU (p:FA) (k:D7->R):R:=@FA.rec (fun _=>R) (fun A B C E F G I J L M N O P Q T U=>k P) p
def WM (p:FA) (k:D7->R):R:=@FA.rec (fun _=>R) (fun A B C E F G I J L M N O P Q T U=>k Q) p
def Xz (p:FA) (k:D7->R):R:=@FA.rec (fun _=>R) (fun A B C E F G I J L M N O P Q T U=>k T) p
def Xu (p:FA) (k:D7->R):R:=@FA.rec (fun _=>R) (fun A B C E F G I J L M N O P Q T U=>k U) p
def FA.selK (d:D):FA->(D7->R)->R :=
 @D.rec (fun _=>FA->(D7->R)->R) Abb Aab Abo Aba Yw Abw Aan Zl Abh YU XI XD XU WM Xz Xu d
theorem FA.selK_eq (d:D) (p:FA) (k:D7->R):FA.selK d p k=k (FA.sel d p):=by
 cases d <;> cases p <;> rfl
inductive FB where
 | mk (A B C E F G I J L M N O P Q T U:FA)
def FB.sel (d:D) (p:FB):FA :=
 @FB.rec (fun _=>FA) (fun A B C E F G I J L M N O P Q T U=>@D.rec (fun _=>FA) A B C E F G I J L M N O P Q T U d) p
def YK (p:FB) (k:FA->R):R:=@FB.rec (fun _=>R) (fun A B C E F G I J L M N O P Q T U=>k A) p
def Abr (p:FB) (k:FA->R):R:=@FB.rec (fun _=>R) (fun A B C E F G I J L M N O P Q T U=>k B) p
def Ab3 (p:FB) (k:FA->R):R:=@FB.rec (fun _=>R) (fun A B C E F G I J L M N O P Q T U=>k C) p
def Zg (p:FB) (k:FA->R):R:=@FB.rec (fun _=>R) (fun A B C E F G I J L M N O P Q T U=>k E) p
def YQ (p:FB) (k:FA->R):R:=@FB.rec (fun _=>R) (fun A B C E F G I J L M N O P Q T U=>k F) p
def Aao (p:FB) (k:FA->R):R:=@FB.rec (fun _=>R) (fun A B C E F G I J L M N O P Q T U=>k G) p
def Ab0 (p:FB) (k:FA->R):R:=@FB.rec (fun _=>R) (fun A B C E F G I J L M N O P Q T U=>k I) p
def Abm (p:FB) (k:FA->R):R:=@FB.rec (fun _=>R) (fun A B C E F G I J L M N O P Q T U=>k J) p
def Zn (p:FB) (k:FA->R):R:=@FB.rec (fun _=>R) (fun A B C E F G I J L M N O P Q T U=>k L) p
def Aa4 (p:FB) (k:FA->R):R:=@FB.rec (fun _=>R) (fun A B C E F G I J L M N O P Q T U=>k M) p
def Wj (p:FB) (k:FA->R):R:=@FB.rec (fun _=>R) (fun A B C E F G I J L M N O P Q T U=>k N) p
def XV (p:FB) (k:FA->R):R:=@FB.rec (fun _=>R) (fun A B C E F G I J L M N O P Q T U=>k O) p
def Wu (p:FB) (k:FA->R):R:=@FB.rec (fun _=>R) (fun A B C E F G I J L M N O P Q T U=>k P) p
def WL (p:FB) (k:FA->R):R:=@FB.rec (fun _=>R) (fun A B C E F G I J L M N O P Q T U=>k Q) p
def Wq (p:FB) (k:FA->R):R:=@FB.rec (fun _=>R) (fun A B C E F G I J L M N O P Q T U=>k T) p
def Xr (p:FB) (k:FA->R):R:=@FB.rec (fun _=>R) (fun A B C E F G I J L M N O P Q T U=>k U) p
def FB.selK (d:D):FB->(FA->R)->R :=
 @D.rec (fun _=>FB->(FA->R)->R) YK Abr Ab3 Zg YQ Aao Ab0 Abm Zn Aa4 Wj XV Wu WL Wq Xr d
theorem FB.selK_eq (d:D) (p:FB) (k:FA->R):FB.selK d p k=k (FB.sel d p):=by
 cases d <;> cases p <;> rfl
inductive FC where
 | mk (A B C E F G I J L M N O P Q T U:FB)
def FC.sel (d:D) (p:FC):FB :=
 @FC.rec (fun _=>FB) (fun A B C E F G I J L M N O P Q T U=>@D.rec (fun _=>FB) A B C E F G I J L M N O P Q T U d) p
def YR (p:FC) (k:FB->R):R:=@FC.rec (fun _=>R) (fun A B C E F G I J L M N O P Q T U=>k A) p
def YG (p:FC) (k:FB->R):R:=@FC.rec (fun _=>R) (fun A B C E F G I J L M N O P Q T U=>k B) p
def ZN (p:FC) (k:FB->R):R:=@FC.rec (fun _=>R) (fun A B C E F G I J L M N O P Q T U=>k C) p
def Aay (p:FC) (k:FB->R):R:=@FC.rec (fun _=>R) (fun A B C E F G I J L M N O P Q T U=>k E) p
def Zm (p:FC) (k:FB->R):R:=@FC.rec (fun _=>R) (fun A B C E F G I J L M N O P Q T U=>k F) p
def Yu (p:FC) (k:FB->R):R:=@FC.rec (fun _=>R) (fun A B C E F G I J L M N O P Q T U=>k G) p
def Ac0 (p:FC) (k:FB->R):R:=@FC.rec (fun _=>R) (fun A B C E F G I J L M N O P Q T U=>k I) p
def Yr (p:FC) (k:FB->R):R:=@FC.rec (fun _=>R) (fun A B C E F G I J L M N O P Q T U=>k J) p
def Abk (p:FC) (k:FB->R):R:=@FC.rec (fun _=>R) (fun A B C E F G I J L M N O P Q T U=>k L) p
def ZB (p:FC) (k:FB->R):R:=@FC.rec (fun _=>R) (fun A B C E F G I J L M N O P Q T U=>k M) p
def WE (p:FC) (k:FB->R):R:=@FC.rec (fun _=>R) (fun A B C E F G I J L M N O P Q T U=>k N) p
def WC (p:FC) (k:FB->R):R:=@FC.rec (fun _=>R) (fun A B C E F G I J L M N O P Q T U=>k O) p
def Wl (p:FC) (k:FB->R):R:=@FC.rec (fun _=>R) (fun A B C E F G I J L M N O P Q T U=>k P) p
def XK (p:FC) (k:FB->R):R:=@FC.rec (fun _=>R) (fun A B C E F G I J L M N O P Q T U=>k Q) p
def WN (p:FC) (k:FB->R):R:=@FC.rec (fun _=>R) (fun A B C E F G I J L M N O P Q T U=>k T) p
def XA (p:FC) (k:FB->R):R:=@FC.rec (fun _=>R) (fun A B C E F G I J L M N O P Q T U=>k U) p
def FC.selK (d:D):FC->(FB->R)->R :=
 @D.rec (fun _=>FC->(FB->R)->R) YR YG ZN Aay Zm Yu Ac0 Yr Abk ZB WE WC Wl XK WN XA d
theorem FC.selK_eq (d:D) (p:FC) (k:FB->R):FC.selK d p k=k (FC.sel d p):=by
 cases d <;> cases p <;> rfl
def KP (k:K3) (T:FC):D7:=FA.sel k.c (FB.sel k.b (FC.sel k.a T))
def Vs (k:K3) (T:FC) (κ:D7->R):R:=@K3.rec (fun _=>R) (fun a b c=>FC.selK a T fun x=>FB.selK b x fun y=>FA.selK c y κ) k
theorem Ua (k:K3) (T:FC) (κ:D7->R):Vs k T κ=κ (KP k T):=by
 cases k; simp only [Vs,KP,FC.selK_eq,FB.selK_eq,FA.selK_eq]
abbrev J1 (ps:List K2):List V->Regs->(Regs->R)->R :=
 @List.rec K2 (fun _=>List V->Regs->(Regs->R)->R) (fun l t κ=>Oz l (κ t)) (fun p _ ih l t κ=>Gc l fun v l=>MP p t v fun t=>ih l t κ) ps
theorem JI:∀ (ps:List K2) (l:List V) (t:Regs) (κ:Regs->R),J1 ps l t κ=Rr l ps t κ
 | [],l,t,κ=>by cases l <;> rfl
 | p::ps,l,t,κ=>by
  cases l with
  | nil=>rfl
  | cons v l =>
   show MP p t v (fun t=>J1 ps l t κ)=MP p t v fun t=>Rr l ps t κ
   rw [No,No,JI]
def Pv (r:R) (res:S->Heap->K4->R):R :=
 @R.rec (fun _=>R) (fun e t h n=>@Ex.rec (fun _=>R) (res t h n) (Bb "") (res t h n) e) (C2 "") (fun w=>.fail w) (fun _ _ a b=>.both a b) r
def NP (r:R):R:=@R.rec (fun _=>R) (Fp "") (fun v h n=>.rv v h n) (fun w=>.fail w) (Fp "") r
def V7 (v:V) (yes no:R):R :=
 @V.rec (fun _=>R) (fun _=>Unit) (fun _ _=>no) (fun _=>no) (fun _ _=>no) (fun _ _ _ _ _ _=>no) (fun _ _=>no) (fun _ _=>no) (fun _=>no) (fun _=>no) (fun _ _ _=>no) (fun _ _=>no)
  (fun o=>@Ot.rec (fun _=>R) no (fun _=>no) (fun _=>no) yes (fun _ _ _=>no) (fun _ _=>no) no (fun _ _=>no) (fun _ _ _ _=>no) (fun _ _ _ _=>no) (fun _ _ _=>no) (fun _ _=>no) o) () (fun _ _ _ _=>()) v
def apX (f:Nat) (its:List Nat) (rd:Rd) (cf:FZ) (args:List V) (h:Heap) (n:K4):R :=
 Gc args fun v l=>V7 v (Gc l fun b l=>Gc l fun x l=>Oz l (rd cf b x h n)) (W6 f its cf args h n)
def Ld (cf:FZ) (o:D7) (args:List V) (h:Heap) (n:K4):R :=
 @Option.rec Ent (fun _=>R) (.fail "") (fun e=>@Ent.rec (fun _=>R) (fun entry body res=>entry args fun t=>Pv (body cf t h n) res) (fun p=>NP (p args h n)) (fun k entry body res=>NP (Yg k (fun hs=>entry args fun t=>Pv (body cf t hs n) res) args h n)) (fun f its rd=>apX f its rd cf args h n) (fun p=>p args h n) e) o
def EQ (T:FC) (m:Nat):FZ :=
 @Nat.rec (fun _=>FZ) (Fp "") (fun _ ih f args h n=>Vs f T fun o=>Ld ih o args h n) m
abbrev Ul (sm:SM) (t:Regs):S:=@List.rec (K2×SL) (fun _=>S) Ez (fun x _ ih=>S.put x.2 ih (Bi x.1 t)) sm
theorem MZ {t:Regs}:∀ {sm:SM},Ol sm=true->∀ {p:K2} {s:SL},BJ p sm=some s->S.get s (Ul sm t)=Bi p t
 | [],_,p,s,h=>by cases h
 | x::l,hok,p,s,h=>by
  simp only [Ol,Bool.and_eq_true] at hok
  have e1:Ul (x::l) t=S.put x.2 (Ul l t) (Bi x.1 t):=rfl
  rw [e1]
  simp only [BJ] at h
  cases hb:K2.beq x.1 p with
  | true =>
   rw [hb] at h
   have h:some x.2=some s:=h
   cases h
   rw [S.get_put_same,K2.beq_iff.1 hb]
  | false =>
   rw [hb] at h
   have h:BJ p l=some s:=h
   have hne:x.2≠s:=fun e=>by
    have:=List.all_eq_true.1 hok.1 _ (GW h)
    rw [←e] at this
    simp [SL.beq,O8.beq_self,O4.beq_self] at this
   rw [S.get_put_ne _ _ hne]
   exact MZ hok.2 h
abbrev SJ (sm:SM) (r:ARes) (t:S) (h:Heap) (κ:V->R):R :=
 @ARes.rec (fun _=>R) (fun p=>Bm sm [] t (.t p) κ) (fun p m=>Bm sm [] t (.t p) fun v=>IR v fun q off=>R2 q h fun cs _ _ =>
  @Option.rec Nat (fun _=>R) (FY cs off κ) (fun m=>BY cs off m fun y=>Eg y fun l=>κ (.agg l)) m) r
abbrev Q8 (sm:SM) (rs:List ARes) (t:S) (h:Heap):(List V->R)->R :=
 @List.rec ARes (fun _=>(List V->R)->R) (fun κ=>κ []) (fun r _ ih κ=>SJ sm r t h fun v=>ih fun vs=>κ (v::vs)) rs
abbrev I1 (sm:SM) (rs:List ARes) (t:S) (h:Heap) (n:K4):R :=
 Q8 sm rs t h fun l=>@List.rec V (fun _=>R) (.rv (.tup []) h n) (fun v vs _=>@List.rec V (fun _=>R) (.rv v h n) (fun _ _ _=>.rv (.tup l) h n) vs) l
abbrev Aa6 (sm:SM) (a:AFn):Ent:=@AFn.rec (fun _=>Ent) (fun ps c rs=>.code (fun l κ=>J1 ps l Gs fun t=>κ (Ul sm t)) (fun cf t h n=>Gz sm cf c r0 [] t h n) (fun t h n=>I1 sm rs t h n)) a
def ARes.reg (r:ARes):K2:=@ARes.rec (fun _=>K2) (fun p=>p) (fun p _=>p) r
def okF (sm:SM) (a:AFn):Bool:=Ol sm&&(F0 sm a.code (fun _=>true) []&&a.rs.all fun r=>Gl sm r.reg)
abbrev WA (sm:SM) (o:Option AFn):D7:=@Option.rec AFn (fun _=>D7) none (fun a=>some (Aa6 sm a)) o
def Ya (sm:SM) (o:Option AFn):Bool:=@Option.rec AFn (fun _=>Bool) false (fun a=>okF sm a) o
section
variable {P:Program} {ρ:Env} {B:Nat}
def Af (P:Program) (f:FuncId) (e:Ent):Prop:=∃ sm:SM,WA sm (G2 P f)=some e∧Ya sm (G2 P f)=true
theorem Af.mk {f:FuncId} {e:Ent} (sm:SM) (h:WA sm (G2 P f)=some e) (k:Ya sm (G2 P f)=true):Af P f e:=⟨sm,h,k⟩
def YV (P:Program) (f:FuncId) (e:Ent):Prop:=∃ k en bo re,e = .br k en bo re∧Af P f (.code en bo re)
def C8 (P:Program) (ρ:Env) (f:FuncId) (e:Ent):Prop:=∃ its rd A,e = .ap f its rd∧ρ.ap f=some A∧L3 P f=some A∧S6 P A=some rd ∧ ∀ g∈its,JF P g
def P7 (P:Program) (ρ:Env) (B:Nat) (f:FuncId) (p:Im):Prop :=
 ∀ args h n (Φ:R->Prop),(p args h n).sat Φ->∀ φ w (xs:Array Value),Gam ρ B h n φ w->Bu ρ φ args xs.toList →
  HV P f xs w fun x w'=>∃ v h1 n1 φ',Φ (.rv v h1 n1)∧Fr h h1 φ φ' n n1 w w'∧Gam ρ B h1 n1 φ' w'∧AG ρ φ' v x
def MI (P:Program) (ρ:Env) (B:Nat) (f:FuncId) (e:Ent):Prop:=(Af P f e∨YV P f e)∨((∃ p,e = .prim p∧Hr P ρ B f p)∨(C8 P ρ f e ∨ ∃ p,e = .tree p∧P7 P ρ B f p))
def Hi (P:Program) (ρ:Env) (B:Nat) (T:FC):Prop:=(∀ f e,KP (BC f) T=some e->MI P ρ B f e) ∧ ∀ f A,ρ.ap f=some A->∃ e,KP (BC f) T=some e∧C8 P ρ f e
theorem MF {r:R} {Φ:R->Prop} (h:(NP r).sat Φ):∃ v h1 n1,r = .rv v h1 n1∧Φ (.rv v h1 n1):=by
 cases r with
 | rv v h1 n1=>exact ⟨v,h1,n1,rfl,h⟩
 | _=>exact h.elim
theorem Tj {sm:SM} {r:ARes} {t:Regs} {t':S} (ri:RI sm [] [] t t') (hk:Gl sm r.reg=true) (hp:Heap) (κ:V->R):SJ sm r t' hp κ=Kf r t hp κ:=by
 have kn:∀ p,Gl sm p=true->Jn sm [] p=true:=fun p h=>by unfold Jn; rw [h,Bool.or_true]
 cases r with
 | tmp p=>show Bm sm [] t' (.t p) κ=Hg p t κ; rw [ri.tell (kn p hk),CA]
 | cel p m =>
  show Bm sm [] t' (.t p) _=Hg p t _
  rw [ri.tell (kn p hk),CA,GA]
theorem OM {sm:SM} {t:Regs} {t':S} (ri:RI sm [] [] t t') {hp:Heap}:∀ {rs:List ARes} {κ:List V->R},(∀ r∈rs,Gl sm r.reg=true)->Q8 sm rs t' hp κ=Ju rs t hp κ
 | [],κ,_=>rfl
 | r::rs,κ,h=>by
  have e1:Q8 sm (r::rs) t' hp κ=SJ sm r t' hp fun v=>Q8 sm rs t' hp fun vs=>κ (v::vs):=rfl
  have e2:Ju (r::rs) t hp κ=Kf r t hp fun v=>Ju rs t hp fun vs=>κ (v::vs):=rfl
  rw [e1,e2,Tj ri (h r (List.mem_cons_self ..))]
  congr 1; funext v
  exact OM ri fun r hr=>h r (List.mem_cons_of_mem _ hr)
theorem Ox {sm:SM} {t:Regs} {t':S} (ri:RI sm [] [] t t') {hp:Heap} {n:K4} {rs:List ARes} (h:∀ r∈rs,Gl sm r.reg=true):I1 sm rs t' hp n=Pb rs t hp n:=OM ri h
def WB (res:S->Heap->K4->R) (Φ:R->Prop):R->Prop
 | .ok .nrm t h n=>(res t h n).sat Φ
 | .ok .ret t h n=>(res t h n).sat Φ
 | _=>False
theorem Is {res:S->Heap->K4->R} {Φ:R->Prop}:∀ {r:R},(Pv r res).sat Φ->r.sat (WB res Φ)
 | .ok e t h n,hs=>by
  cases e with
  | nrm=>exact hs
  | ret=>exact hs
  | exit j=>exact hs.elim
 | .rv _ _ _,hs=>hs.elim
 | .fail _,hs=>hs.elim
 | .both a b,hs=>⟨Is (r:=a) hs.1,Is (r:=b) hs.2⟩
theorem UB {r:ARes} {t:Regs} {h:Heap} {κ:V->R} (hg:(Kf r t h κ).good):∃ v,Kf r t h κ=κ v:=by
 cases r with
 | tmp p=>exact ⟨_,CA p t κ⟩
 | cel p m =>
  have e1:Kf (.cel p m) t h κ=IR (Bi p t) fun q off=>IJ q h fun cs _ _ =>
    @Option.rec Nat (fun _=>R) (FY cs off κ) (fun m=>BY cs off m fun y=>Eg y fun l=>κ (.agg l)) m:=CA p t _
  rw [e1] at hg
  obtain ⟨q,off,hv,e2⟩:=CW hg
  rw [e2] at hg
  obtain ⟨cs,sup,prev,hq,e3⟩:=CS hg
  rw [e3] at hg
  cases m with
  | none =>
   obtain ⟨v,_,e4⟩:=GU (show R.good (FY cs off κ) from hg)
   exact ⟨v,e1.trans (e2.trans (e3.trans e4))⟩
  | some m =>
   obtain ⟨hle,y,hyl,hya,e4⟩:=Cr (show R.good (BY cs off m fun y=>Eg y fun l=>κ (.agg l)) from hg)
   obtain ⟨l,e5,_,_⟩:=Fn y fun l=>κ (.agg l)
   exact ⟨.agg l,e1.trans (e2.trans (e3.trans (Eq.trans e4 e5)))⟩
theorem Qc:∀ {rs:List ARes} {t:Regs} {h:Heap} {κ:List V->R},(Ju rs t h κ).good->∃ vs,Ju rs t h κ=κ vs
 | [],t,h,κ,_=>⟨[],rfl⟩
 | r::rs,t,h,κ,hg=>by
  have hg:R.good (Kf r t h fun v=>Ju rs t h fun vs=>κ (v::vs)):=hg
  obtain ⟨v,e1⟩:=UB hg
  rw [e1] at hg
  obtain ⟨vs,e2⟩:=Qc hg
  exact ⟨v::vs,Eq.trans e1 e2⟩
theorem QL {rs:List ARes} {t:Regs} {h:Heap} {n:K4} (hg:(Pb rs t h n).good):∃ v,Pb rs t h n = .rv v h n:=by
 obtain ⟨vs,e⟩:=Qc (show R.good (Ju rs t h _) from hg)
 have e:Pb rs t h n=_:=e
 match vs,e with
 | [],e=>exact ⟨_,e⟩
 | [u],e=>exact ⟨_,e⟩
 | u::u'::us,e=>exact ⟨_,e⟩
theorem Mh (hρ:Bq ρ) (hm:P.follows .mixedOrders=true) {cf:CF} {cf2:FZ} (hct:Gn P ρ B cf) (hR:FJ P ρ B cf) (h2:∀ f,cf2 (BC f)=cf f) {f:FuncId} {e:Ent} (he:Af P f e) {args:List V} {h:Heap} {n:K4} {Φ:R->Prop}
  (hr:(Ld cf2 (some e) args h n).sat Φ) {φ:B6} {w:World} {xs:Array Value} (g:Gam ρ B h n φ w) (hxs:Bu ρ φ args xs.toList) :
  HV P f xs w fun x w'=>∃ v h1 n1 φ',Φ (.rv v h1 n1)∧Fr h h1 φ φ' n n1 w w'∧Gam ρ B h1 n1 φ' w'∧AG ρ φ' v x:=by
 obtain ⟨sm,hd,hok⟩:=he
 cases hf:G2 P f with
 | none=>rw [hf] at hd; cases hd
 | some a =>
  rw [hf] at hd hok
  obtain ⟨fn,c,ps,rs,hfn,hb,hps,hrs,hname,rfl⟩:=Kl hf
  have hd:some (Ent.code (fun l κ=>J1 ps l Gs fun t=>κ (Ul sm t)) (fun cf t h n=>Gz sm cf (AM P fn.ntmps c) r0 [] t h n) (fun t h n=>I1 sm rs t h n))=some e:=hd
  cases hd
  have hok:(Ol sm&&(F0 sm (AM P fn.ntmps c) (fun _=>true) []&&rs.all fun r=>Gl sm r.reg))=true:=hok
  rw [Bool.and_eq_true,Bool.and_eq_true] at hok
  obtain ⟨hsm,hok⟩:=hok
  have inj:∀ {p q s},BJ p sm=some s->BJ q sm=some s->p=q:=fun h h'=>Kv hsm h h'
  have hr:(J1 ps args Gs (fun t=>Pv (Gz sm cf2 (AM P fn.ntmps c) r0 [] (Ul sm t) h n) fun t h n=>I1 sm rs t h n)).sat Φ:=hr
  rw [JI] at hr
  obtain ⟨hlen,t0,e2,H0⟩:=Iz (k:=0) (fun i s hi=>by
   obtain ⟨hi',hi2⟩:=List.getElem?_eq_some_iff.1 hi
   simp at hi2; omega) hps (R.sat_good hr)
  rw [e2] at hr
  simp only [List.length_range] at hlen
  have hxl:xs.size=args.length:=by have:=Bf hxs; simpa using this
  have hxN:xs.size≤fn.ntmps:=by
   rcases Nat.eq_zero_or_pos xs.size with h0 | h0
   ·omega
   ·have:=IG hps (xs.size - 1) (List.mem_range.2 (by omega)); omega
  have hT:TR ρ fn.ntmps φ t0 { tmps:=xs++Array.replicate (fn.ntmps - xs.size) undef,defers:=[] }:={
   size:=by simp; omega
   defers:=rfl
   at_:=fun s p hs hp=>by
    rw [H0 s p hp,if_pos (Nat.zero_le _),Nat.sub_zero,IX]
    show AG ρ φ _ ((xs++Array.replicate (fn.ntmps - xs.size) undef).getD s undef)
    rw [Array.getD_eq_getD_getElem?]
    by_cases hsx:s<xs.size
    ·rw [Array.getElem?_append_left hsx]
     have hsa:s<args.length:=by omega
     rw [List.getElem?_eq_getElem hsa]
     obtain ⟨x,hx,hrx⟩:=(Cc.1 hxs).2 s _ (List.getElem?_eq_getElem hsa)
     rw [Array.getElem?_toList] at hx
     rw [hx]; exact hrx
    ·rw [Array.getElem?_append_right (by omega),Array.getElem?_replicate,if_pos (by omega),List.getElem?_eq_none (by omega)]
     exact DN }
  have hx:=Is hr
  have hOK:=(SX (N:=fn.ntmps) (sm:=sm) hρ hm hct hR h2 c).join hok.1 (RI.start inj fun p s hs=>MZ hsm hs) hx
  intro o a K Q hK
  have hcf':(callFunc f xs).run P w = .ok (.enter f xs) w:=by
   have hname':fn.name ≠ "runtime.NumGoroutine":=by simpa using hname
   simp [callFunc,hfn,hname',hb]
  rw [hcf']
  refine calls_of_wp hfn hb (hOK φ _ w hT g _ fun e t1 h2' n2 hres φ' a' w' tf f1 g1 T1 hk=>?_)
  have fin:(I1 sm rs t1 h2' n2).sat Φ->∃ X,(results fn a'.tmps).run P w' = .ok X w'∧K (a.put o.dst X) w':=fun hres=>by
   rw [Ox (RI.start inj hk) fun r hr=>List.all_eq_true.1 hok.2 r hr] at hres
   obtain ⟨v,hv⟩:=QL (R.sat_good hres)
   obtain ⟨_,_,Hres⟩:=Mz (ρ:=ρ) (B:=B) hrs hv
   rw [hv] at hres
   obtain ⟨X,hX,hrX⟩:=Hres φ' a' w' T1 g1
   exact ⟨X,hX,hK X w' ⟨v,h2',n2,φ',hres,f1,g1,hrX⟩⟩
  cases e with
  | nrm=>obtain ⟨X,hX,hKX⟩:=fin hres; exact ⟨T1.defers,X,hX,hKX⟩
  | exit id=>exact hres.elim
  | ret=>obtain ⟨X,hX,hKX⟩:=fin hres; exact ⟨T1.defers,X,hX,hKX⟩
theorem LK (hρ:Bq ρ) (hm:P.follows .mixedOrders=true) {T:FC} (hT:Hi P ρ B T):∀ m,Gn P ρ B (fun f=>EQ T m (BC f))∧FJ P ρ B (fun f=>EQ T m (BC f)):=by
 intro m
 induction m with
 | zero=>exact ⟨fun f args h n Φ hr=>hr.elim,fun f A fn hA box x h n Φ hr=>hr.elim⟩
 | succ m ih =>
  obtain ⟨hct,hR⟩:=ih
  have e1:∀ f args h n,EQ T (m+1) (BC f) args h n=Ld (EQ T m) (KP (BC f) T) args h n:=fun f args h n=>Ua (BC f) T fun o=>Ld (EQ T m) o args h n
  refine ⟨fun f args h n Φ hr φ w xs g hxs=>?_,fun f A fn hA box x h n Φ hr φ w tmps X l D g hrec unc hsz hbox hX=>?_⟩
  ·have hr:(EQ T (m+1) (BC f) args h n).sat Φ:=hr
   rw [e1] at hr
   cases ho:KP (BC f) T with
   | none=>rw [ho] at hr; exact hr.elim
   | some e =>
    rw [ho] at hr
    rcases hT.1 f e ho with (he | ⟨k,en,bo,re,rfl,he⟩) | (⟨p,rfl,hp⟩ | (⟨its,rd,A,rfl,hA,h1,h2,h3⟩ | ⟨p,rfl,hp⟩))
    ·exact Mh hρ hm hct hR (fun _=>rfl) he hr g hxs
    ·obtain ⟨v,h1,n1,hr,hΦ⟩:=MF (show (NP (Yg k (fun hs=>en args fun t=>Pv (bo (EQ T m) t hs n) re) args h n)).sat Φ from hr)
     intro o a K Q hK
     exact Vp hr g hxs (fun hs Φ hsat gs=>Mh hρ hm hct hR (fun _=>rfl) he (h:=hs) hsat gs hxs) o a K Q fun x w' ⟨φ',f1,g1,r1⟩=>hK x w' ⟨v,h1,n1,φ',hΦ,f1,g1,r1⟩
    ·obtain ⟨v,h1,n1,hr,hΦ⟩:=MF (show (NP (p args h n)).sat Φ from hr)
     intro o a K Q hK
     exact hp args h n v h1 n1 hr φ w xs g hxs o a K Q fun x w' ⟨φ',f1,g1,r1⟩=>hK x w' ⟨v,h1,n1,φ',hΦ,f1,g1,r1⟩
    ·have hr:(apX f its rd (EQ T m) args h n).sat Φ:=hr
     unfold apX at hr
     obtain ⟨v,l,hl,q1⟩:=Dz (R.sat_good hr)
     rw [q1] at hr
     subst hl
     by_cases hv:v = .oth .no
     ·subst hv
      obtain ⟨y,ys,_,hy,_⟩:=AE.1 hxs
      simp only [AG] at hy
     ·have e2:∀ A C:R,V7 v A C=C:=fun A C=>by
       cases v with
       | oth o=>cases o with
        | no=>exact absurd rfl hv
        | _=>rfl
       | _=>rfl
      rw [e2] at hr
      exact Xq hA h1 h3 hct (fun _=>rfl) hr g hxs
    ·exact hp args h n Φ hr φ w xs g hxs
  ·obtain ⟨e,ho,its,rd,A',rfl,hA',h1,h2,h3⟩:=hT.2 f A hA
   rw [hA] at hA'; cases hA'
   have hr:(EQ T (m+1) (BC f) [.oth .no,.ptr box 0,x] h n).sat Φ:=hr
   rw [e1,ho] at hr
   have hr:(rd (EQ T m) (.ptr box 0) x h n).sat Φ:=hr
   exact XT hρ hct.ok (fun _=>rfl) h2 hr g hrec unc hsz hbox hX
theorem Tc (hρ:Bq ρ) (hm:P.follows .mixedOrders=true) {T:FC} (hT:Hi P ρ B T) (m:Nat):DU P ρ B fun f=>EQ T m (BC f):=(LK hρ hm hT m).1.ok
end
end Go.Ev

namespace Go.Ev
open Go.RowKit
set_option linter.unusedVariables false
abbrev Az (w:Bool) (v:V) (h:Heap) (n:K4) (F:KV->R) (κ:KV):R:=gd w v F κ h n
abbrev Ab (v:V):R:=.rv v AT ⟨.d0,.d0,.d0,.d0⟩
abbrev alY (b:K4) (j:D) (h:Heap) (F:K4->R) (κ:KV):R:=b.at j fun r=>Bk r h fun x=>Hn x (AZ (F r) κ)
abbrev G7 (b:K4) (j:D) (h:Heap) (F:K4->R) (κ:V->Heap->R):R:=alY b j h F fun v h _=>κ v h
abbrev Dh (b:K4) (j:D) (h:Heap) (κ:R):R:=b.at j fun r=>Bk r h fun x=>Hn x κ
abbrev rnX (b:K4) (j:D) (h:Heap) (F:Heap->R) (κ:V->R):R:=b.at j fun r=>Bk r h fun x=>VR x fun ob=>Bx r AT (some ob) fun hx=>Ac (F hx) κ
abbrev E8 (m:Nat) (v:V) (h:Heap) (κ:V->R):R:=IR v fun q off=>R2 q h fun cs _ _=>BY cs off m fun y=>Eg y fun l=>κ (.agg l)
abbrev U:V:=Cf
abbrev Q0:SQ:=.mk U U U U
abbrev g0 (t:S) (k:V->R):R:=@S.rec (fun _=>R) (fun c0 c1 c2 c3 c4 c5 c6 c7=>@SQ.rec (fun _=>R) (fun d0 d1 d2 d3=>k d0) c0) t
abbrev w0 (t:S) (v:V) (k:S->R):R:=@S.rec (fun _=>R) (fun c0 c1 c2 c3 c4 c5 c6 c7=>@SQ.rec (fun _=>R) (fun d0 d1 d2 d3=>k (.mk (.mk v d1 d2 d3) c1 c2 c3 c4 c5 c6 c7)) c0) t
abbrev g1 (t:S) (k:V->R):R:=@S.rec (fun _=>R) (fun c0 c1 c2 c3 c4 c5 c6 c7=>@SQ.rec (fun _=>R) (fun d0 d1 d2 d3=>k d1) c0) t
abbrev w1 (t:S) (v:V) (k:S->R):R:=@S.rec (fun _=>R) (fun c0 c1 c2 c3 c4 c5 c6 c7=>@SQ.rec (fun _=>R) (fun d0 d1 d2 d3=>k (.mk (.mk d0 v d2 d3) c1 c2 c3 c4 c5 c6 c7)) c0) t
abbrev g2 (t:S) (k:V->R):R:=@S.rec (fun _=>R) (fun c0 c1 c2 c3 c4 c5 c6 c7=>@SQ.rec (fun _=>R) (fun d0 d1 d2 d3=>k d2) c0) t
abbrev w2 (t:S) (v:V) (k:S->R):R:=@S.rec (fun _=>R) (fun c0 c1 c2 c3 c4 c5 c6 c7=>@SQ.rec (fun _=>R) (fun d0 d1 d2 d3=>k (.mk (.mk d0 d1 v d3) c1 c2 c3 c4 c5 c6 c7)) c0) t
abbrev g3 (t:S) (k:V->R):R:=@S.rec (fun _=>R) (fun c0 c1 c2 c3 c4 c5 c6 c7=>@SQ.rec (fun _=>R) (fun d0 d1 d2 d3=>k d3) c0) t
abbrev w3 (t:S) (v:V) (k:S->R):R:=@S.rec (fun _=>R) (fun c0 c1 c2 c3 c4 c5 c6 c7=>@SQ.rec (fun _=>R) (fun d0 d1 d2 d3=>k (.mk (.mk d0 d1 d2 v) c1 c2 c3 c4 c5 c6 c7)) c0) t
abbrev g4 (t:S) (k:V->R):R:=@S.rec (fun _=>R) (fun c0 c1 c2 c3 c4 c5 c6 c7=>@SQ.rec (fun _=>R) (fun d0 d1 d2 d3=>k d0) c1) t
abbrev w4 (t:S) (v:V) (k:S->R):R:=@S.rec (fun _=>R) (fun c0 c1 c2 c3 c4 c5 c6 c7=>@SQ.rec (fun _=>R) (fun d0 d1 d2 d3=>k (.mk c0 (.mk v d1 d2 d3) c2 c3 c4 c5 c6 c7)) c1) t
abbrev g5 (t:S) (k:V->R):R:=@S.rec (fun _=>R) (fun c0 c1 c2 c3 c4 c5 c6 c7=>@SQ.rec (fun _=>R) (fun d0 d1 d2 d3=>k d1) c1) t
abbrev w5 (t:S) (v:V) (k:S->R):R:=@S.rec (fun _=>R) (fun c0 c1 c2 c3 c4 c5 c6 c7=>@SQ.rec (fun _=>R) (fun d0 d1 d2 d3=>k (.mk c0 (.mk d0 v d2 d3) c2 c3 c4 c5 c6 c7)) c1) t
abbrev g6 (t:S) (k:V->R):R:=@S.rec (fun _=>R) (fun c0 c1 c2 c3 c4 c5 c6 c7=>@SQ.rec (fun _=>R) (fun d0 d1 d2 d3=>k d2) c1) t
abbrev w6 (t:S) (v:V) (k:S->R):R:=@S.rec (fun _=>R) (fun c0 c1 c2 c3 c4 c5 c6 c7=>@SQ.rec (fun _=>R) (fun d0 d1 d2 d3=>k (.mk c0 (.mk d0 d1 v d3) c2 c3 c4 c5 c6 c7)) c1) t
abbrev g7 (t:S) (k:V->R):R:=@S.rec (fun _=>R) (fun c0 c1 c2 c3 c4 c5 c6 c7=>@SQ.rec (fun _=>R) (fun d0 d1 d2 d3=>k d3) c1) t
abbrev w7 (t:S) (v:V) (k:S->R):R:=@S.rec (fun _=>R) (fun c0 c1 c2 c3 c4 c5 c6 c7=>@SQ.rec (fun _=>R) (fun d0 d1 d2 d3=>k (.mk c0 (.mk d0 d1 d2 v) c2 c3 c4 c5 c6 c7)) c1) t
abbrev g8 (t:S) (k:V->R):R:=@S.rec (fun _=>R) (fun c0 c1 c2 c3 c4 c5 c6 c7=>@SQ.rec (fun _=>R) (fun d0 d1 d2 d3=>k d0) c2) t
abbrev w8 (t:S) (v:V) (k:S->R):R:=@S.rec (fun _=>R) (fun c0 c1 c2 c3 c4 c5 c6 c7=>@SQ.rec (fun _=>R) (fun d0 d1 d2 d3=>k (.mk c0 c1 (.mk v d1 d2 d3) c3 c4 c5 c6 c7)) c2) t
abbrev g9 (t:S) (k:V->R):R:=@S.rec (fun _=>R) (fun c0 c1 c2 c3 c4 c5 c6 c7=>@SQ.rec (fun _=>R) (fun d0 d1 d2 d3=>k d1) c2) t
abbrev w9 (t:S) (v:V) (k:S->R):R:=@S.rec (fun _=>R) (fun c0 c1 c2 c3 c4 c5 c6 c7=>@SQ.rec (fun _=>R) (fun d0 d1 d2 d3=>k (.mk c0 c1 (.mk d0 v d2 d3) c3 c4 c5 c6 c7)) c2) t
abbrev Ns (t:S) (k:V->R):R:=@S.rec (fun _=>R) (fun c0 c1 c2 c3 c4 c5 c6 c7=>@SQ.rec (fun _=>R) (fun d0 d1 d2 d3=>k d2) c2) t
abbrev MY (t:S) (v:V) (k:S->R):R:=@S.rec (fun _=>R) (fun c0 c1 c2 c3 c4 c5 c6 c7=>@SQ.rec (fun _=>R) (fun d0 d1 d2 d3=>k (.mk c0 c1 (.mk d0 d1 v d3) c3 c4 c5 c6 c7)) c2) t
abbrev P2 (t:S) (k:V->R):R:=@S.rec (fun _=>R) (fun c0 c1 c2 c3 c4 c5 c6 c7=>@SQ.rec (fun _=>R) (fun d0 d1 d2 d3=>k d3) c2) t
abbrev OZ (t:S) (v:V) (k:S->R):R:=@S.rec (fun _=>R) (fun c0 c1 c2 c3 c4 c5 c6 c7=>@SQ.rec (fun _=>R) (fun d0 d1 d2 d3=>k (.mk c0 c1 (.mk d0 d1 d2 v) c3 c4 c5 c6 c7)) c2) t
abbrev SE (t:S) (k:V->R):R:=@S.rec (fun _=>R) (fun c0 c1 c2 c3 c4 c5 c6 c7=>@SQ.rec (fun _=>R) (fun d0 d1 d2 d3=>k d0) c3) t
abbrev T6 (t:S) (v:V) (k:S->R):R:=@S.rec (fun _=>R) (fun c0 c1 c2 c3 c4 c5 c6 c7=>@SQ.rec (fun _=>R) (fun d0 d1 d2 d3=>k (.mk c0 c1 c2 (.mk v d1 d2 d3) c4 c5 c6 c7)) c3) t
abbrev We (t:S) (k:V->R):R:=@S.rec (fun _=>R) (fun c0 c1 c2 c3 c4 c5 c6 c7=>@SQ.rec (fun _=>R) (fun d0 d1 d2 d3=>k d1) c3) t
abbrev Wd (t:S) (v:V) (k:S->R):R:=@S.rec (fun _=>R) (fun c0 c1 c2 c3 c4 c5 c6 c7=>@SQ.rec (fun _=>R) (fun d0 d1 d2 d3=>k (.mk c0 c1 c2 (.mk d0 v d2 d3) c4 c5 c6 c7)) c3) t
abbrev Yf (t:S) (k:V->R):R:=@S.rec (fun _=>R) (fun c0 c1 c2 c3 c4 c5 c6 c7=>@SQ.rec (fun _=>R) (fun d0 d1 d2 d3=>k d2) c3) t
abbrev Zp (t:S) (v:V) (k:S->R):R:=@S.rec (fun _=>R) (fun c0 c1 c2 c3 c4 c5 c6 c7=>@SQ.rec (fun _=>R) (fun d0 d1 d2 d3=>k (.mk c0 c1 c2 (.mk d0 d1 v d3) c4 c5 c6 c7)) c3) t
abbrev Wf (t:S) (k:V->R):R:=@S.rec (fun _=>R) (fun c0 c1 c2 c3 c4 c5 c6 c7=>@SQ.rec (fun _=>R) (fun d0 d1 d2 d3=>k d3) c3) t
abbrev W7 (t:S) (v:V) (k:S->R):R:=@S.rec (fun _=>R) (fun c0 c1 c2 c3 c4 c5 c6 c7=>@SQ.rec (fun _=>R) (fun d0 d1 d2 d3=>k (.mk c0 c1 c2 (.mk d0 d1 d2 v) c4 c5 c6 c7)) c3) t
abbrev g16 (t:S) (k:V->R):R:=@S.rec (fun _=>R) (fun c0 c1 c2 c3 c4 c5 c6 c7=>@SQ.rec (fun _=>R) (fun d0 d1 d2 d3=>k d0) c4) t
abbrev w16 (t:S) (v:V) (k:S->R):R:=@S.rec (fun _=>R) (fun c0 c1 c2 c3 c4 c5 c6 c7=>@SQ.rec (fun _=>R) (fun d0 d1 d2 d3=>k (.mk c0 c1 c2 c3 (.mk v d1 d2 d3) c5 c6 c7)) c4) t
abbrev g17 (t:S) (k:V->R):R:=@S.rec (fun _=>R) (fun c0 c1 c2 c3 c4 c5 c6 c7=>@SQ.rec (fun _=>R) (fun d0 d1 d2 d3=>k d1) c4) t
abbrev w17 (t:S) (v:V) (k:S->R):R:=@S.rec (fun _=>R) (fun c0 c1 c2 c3 c4 c5 c6 c7=>@SQ.rec (fun _=>R) (fun d0 d1 d2 d3=>k (.mk c0 c1 c2 c3 (.mk d0 v d2 d3) c5 c6 c7)) c4) t
abbrev Yl (t:S) (k:V->R):R:=@S.rec (fun _=>R) (fun c0 c1 c2 c3 c4 c5 c6 c7=>@SQ.rec (fun _=>R) (fun d0 d1 d2 d3=>k d2) c4) t
abbrev Yc (t:S) (v:V) (k:S->R):R:=@S.rec (fun _=>R) (fun c0 c1 c2 c3 c4 c5 c6 c7=>@SQ.rec (fun _=>R) (fun d0 d1 d2 d3=>k (.mk c0 c1 c2 c3 (.mk d0 d1 v d3) c5 c6 c7)) c4) t
abbrev g19 (t:S) (k:V->R):R:=@S.rec (fun _=>R) (fun c0 c1 c2 c3 c4 c5 c6 c7=>@SQ.rec (fun _=>R) (fun d0 d1 d2 d3=>k d3) c4) t
abbrev w19 (t:S) (v:V) (k:S->R):R:=@S.rec (fun _=>R) (fun c0 c1 c2 c3 c4 c5 c6 c7=>@SQ.rec (fun _=>R) (fun d0 d1 d2 d3=>k (.mk c0 c1 c2 c3 (.mk d0 d1 d2 v) c5 c6 c7)) c4) t
abbrev g20 (t:S) (k:V->R):R:=@S.rec (fun _=>R) (fun c0 c1 c2 c3 c4 c5 c6 c7=>@SQ.rec (fun _=>R) (fun d0 d1 d2 d3=>k d0) c5) t
abbrev w20 (t:S) (v:V) (k:S->R):R:=@S.rec (fun _=>R) (fun c0 c1 c2 c3 c4 c5 c6 c7=>@SQ.rec (fun _=>R) (fun d0 d1 d2 d3=>k (.mk c0 c1 c2 c3 c4 (.mk v d1 d2 d3) c6 c7)) c5) t
abbrev g21 (t:S) (k:V->R):R:=@S.rec (fun _=>R) (fun c0 c1 c2 c3 c4 c5 c6 c7=>@SQ.rec (fun _=>R) (fun d0 d1 d2 d3=>k d1) c5) t
abbrev w21 (t:S) (v:V) (k:S->R):R:=@S.rec (fun _=>R) (fun c0 c1 c2 c3 c4 c5 c6 c7=>@SQ.rec (fun _=>R) (fun d0 d1 d2 d3=>k (.mk c0 c1 c2 c3 c4 (.mk d0 v d2 d3) c6 c7)) c5) t
abbrev g22 (t:S) (k:V->R):R:=@S.rec (fun _=>R) (fun c0 c1 c2 c3 c4 c5 c6 c7=>@SQ.rec (fun _=>R) (fun d0 d1 d2 d3=>k d2) c5) t
abbrev w22 (t:S) (v:V) (k:S->R):R:=@S.rec (fun _=>R) (fun c0 c1 c2 c3 c4 c5 c6 c7=>@SQ.rec (fun _=>R) (fun d0 d1 d2 d3=>k (.mk c0 c1 c2 c3 c4 (.mk d0 d1 v d3) c6 c7)) c5) t
section
variable {P:Program} {ρ:Env} {B:Nat}
def Ag (P:Program) (ρ:Env) (B:Nat) (f:FuncId) (o:D7):Prop:=∀ e,o=some e->MI P ρ B f e
theorem Ag.no {f:FuncId}:Ag P ρ B f none:=fun e h=>by cases h
theorem Ag.fn {f:FuncId} {e:Ent} (h:Af P f e):Ag P ρ B f (some e):=fun e' h'=>by cases h'; exact .inl (.inl h)
theorem Ag.br {f:FuncId} {k:Nat} {en:List V->(S->R)->R} {bo:FZ->S->Heap->K4->R} {re:S->Heap->K4->R} (h:Af P f (.code en bo re)):Ag P ρ B f (some (.br k en bo re)):=fun e' h'=>by cases h'; exact .inl (.inr ⟨k,en,bo,re,rfl,h⟩)
theorem Ag.brX {f:FuncId} {e:Ent} {k:Nat} (h:Af P f e) (he:∃ en bo re,e = .code en bo re):Ag P ρ B f (some (e.toBr k)):=by
 obtain ⟨en,bo,re,rfl⟩:=he
 exact Ag.br h
theorem Ag.pr {f:FuncId} {p:Im} (h:Hr P ρ B f p):Ag P ρ B f (some (.prim p)):=fun e' h'=>by cases h'; exact .inr (.inl ⟨p,rfl,h⟩)
def AU (s:String):Im:=fun _ _ _=>.fail s
theorem Ag.noP {f:FuncId} (s:String):Ag P ρ B f (some (.prim (AU s))):=Ag.pr fun args h n v h1 n1 hx=>by cases hx
theorem Ag.ap {f:FuncId} {its:List Nat} {rd:Rd} {A:ApC} (hA:ρ.ap f=some A) (h1:L3 P f=some A) (h2:S6 P A=some rd) (h3:∀ g∈its,JF P g):Ag P ρ B f (some (.ap f its rd)):=fun e' h'=>by cases h'; exact .inr (.inr (.inl ⟨its,rd,A,rfl,hA,h1,h2,h3⟩))
theorem Ag.tr {f:FuncId} {p:Im} (h:P7 P ρ B f p):Ag P ρ B f (some (.tree p)):=fun e' h'=>by cases h'; exact .inr (.inr (.inr ⟨p,rfl,h⟩))
def Cm (P:Program) (ρ:Env) (B:Nat) (base:Nat) (x:FA):Prop:=∀ d,Ag P ρ B (base+d.toN) (FA.sel d x)
def L1 (P:Program) (ρ:Env) (B:Nat) (base:Nat) (x:FB):Prop:=∀ d,Cm P ρ B (base+16*d.toN) (FB.sel d x)
theorem B0 {base:Nat} {c0 c1 c2 c3 c4 c5 c6 c7 c8 c9 ca cb cc cd ce cf:D7} (h0:Ag P ρ B (base+0) c0) (h1:Ag P ρ B (base+1) c1) (h2:Ag P ρ B (base+2) c2) (h3:Ag P ρ B (base+3) c3) (h4:Ag P ρ B (base+4) c4) (h5:Ag P ρ B (base+5) c5) (h6:Ag P ρ B (base+6) c6) (h7:Ag P ρ B (base+7) c7) (h8:Ag P ρ B (base+8) c8) (h9:Ag P ρ B (base+9) c9) (h10:Ag P ρ B (base+10) ca) (h11:Ag P ρ B (base+11) cb) (h12:Ag P ρ B (base+12) cc) (h13:Ag P ρ B (base+13) cd) (h14:Ag P ρ B (base+14) ce) (h15:Ag P ρ B (base+15) cf):Cm P ρ B base (.mk c0 c1 c2 c3 c4 c5 c6 c7 c8 c9 ca cb cc cd ce cf):=fun d=>by
 cases d
 ·exact h0
 ·exact h1
 ·exact h2
 ·exact h3
 ·exact h4
 ·exact h5
 ·exact h6
 ·exact h7
 ·exact h8
 ·exact h9
 ·exact h10
 ·exact h11
 ·exact h12
 ·exact h13
 ·exact h14
 ·exact h15
theorem Nt {base:Nat} {c0 c1 c2 c3 c4 c5 c6 c7 c8 c9 ca cb cc cd ce cf:FA} (h0:Cm P ρ B (base+16*0) c0) (h1:Cm P ρ B (base+16*1) c1) (h2:Cm P ρ B (base+16*2) c2) (h3:Cm P ρ B (base+16*3) c3) (h4:Cm P ρ B (base+16*4) c4) (h5:Cm P ρ B (base+16*5) c5) (h6:Cm P ρ B (base+16*6) c6) (h7:Cm P ρ B (base+16*7) c7) (h8:Cm P ρ B (base+16*8) c8) (h9:Cm P ρ B (base+16*9) c9) (h10:Cm P ρ B (base+16*10) ca) (h11:Cm P ρ B (base+16*11) cb) (h12:Cm P ρ B (base+16*12) cc) (h13:Cm P ρ B (base+16*13) cd) (h14:Cm P ρ B (base+16*14) ce) (h15:Cm P ρ B (base+16*15) cf):L1 P ρ B base (.mk c0 c1 c2 c3 c4 c5 c6 c7 c8 c9 ca cb cc cd ce cf):=fun d=>by
 cases d
 ·exact h0
 ·exact h1
 ·exact h2
 ·exact h3
 ·exact h4
 ·exact h5
 ·exact h6
 ·exact h7
 ·exact h8
 ·exact h9
 ·exact h10
 ·exact h11
 ·exact h12
 ·exact h13
 ·exact h14
 ·exact h15
def N2:FA:=.mk none none none none none none none none none none none none none none none none
def H3:FB:=.mk N2 N2 N2 N2 N2 N2 N2 N2 N2 N2 N2 N2 N2 N2 N2 N2
theorem Qz (d:D):FA.sel d N2=none:=by cases d <;> rfl
theorem Q9 (d:D):FB.sel d H3=N2:=by cases d <;> rfl
theorem Ve {base:Nat}:Cm P ρ B base N2:=fun d=>by rw [Qz]; exact Ag.no
theorem BO {base:Nat}:L1 P ρ B base H3:=fun d=>by rw [Q9]; exact Ve
theorem ofN_lt {x:Nat} {d:D} (h:D.ofN x=d) (hd:d ≠ .d15):x=d.toN:=by
 rcases Nat.lt_or_ge x 15 with hx | hx
 ·rw [←h,D.toN_ofN x (by omega)]
 ·exfalso
  obtain ⟨y,rfl⟩:∃ y,x=y+15:=⟨x - 15,by omega⟩
  exact hd h.symm
theorem Si {c0 c1 c2 c3 c4 c5 c6 c7 c8 c9 ca cb cc cd ce:FB} (h0:L1 P ρ B (256*0) c0) (h1:L1 P ρ B (256*1) c1) (h2:L1 P ρ B (256*2) c2) (h3:L1 P ρ B (256*3) c3) (h4:L1 P ρ B (256*4) c4) (h5:L1 P ρ B (256*5) c5) (h6:L1 P ρ B (256*6) c6) (h7:L1 P ρ B (256*7) c7) (h8:L1 P ρ B (256*8) c8) (h9:L1 P ρ B (256*9) c9) (h10:L1 P ρ B (256*10) ca) (h11:L1 P ρ B (256*11) cb) (h12:L1 P ρ B (256*12) cc) (h13:L1 P ρ B (256*13) cd) (h14:L1 P ρ B (256*14) ce):∀ f e,KP (BC f) (.mk c0 c1 c2 c3 c4 c5 c6 c7 c8 c9 ca cb cc cd ce H3)=some e->MI P ρ B f e:=fun f e h=>by
 have hc:(D.ofN (f % 16)).toN=f % 16:=D.toN_ofN _ (by omega)
 have hb:(D.ofN (f / 16 % 16)).toN=f / 16 % 16:=D.toN_ofN _ (by omega)
 have key:∀ x:FB,L1 P ρ B (256*(f / 256)) x->FA.sel (D.ofN (f % 16)) (FB.sel (D.ofN (f / 16 % 16)) x)=some e->MI P ρ B f e:=fun x hx hs=>by
  have:=hx (D.ofN (f / 16 % 16)) (D.ofN (f % 16)) e hs
  rw [hc,hb] at this
  have e1:256*(f / 256)+16*(f / 16 % 16)+f % 16=f:=by omega
  rw [e1] at this; exact this
 have h:FA.sel (D.ofN (f % 16)) (FB.sel (D.ofN (f / 16 % 16)) (FC.sel (D.ofN (f / 256)) (.mk c0 c1 c2 c3 c4 c5 c6 c7 c8 c9 ca cb cc cd ce H3)))=some e:=h
 generalize hd:D.ofN (f / 256)=d at h
 cases d
 ·have:=ofN_lt hd (by intro h; cases h); rw [show D.toN .d0=0 from rfl] at this; exact key c0 (by rw [this]; exact h0) h
 ·have:=ofN_lt hd (by intro h; cases h); rw [show D.toN .d1=1 from rfl] at this; exact key c1 (by rw [this]; exact h1) h
 ·have:=ofN_lt hd (by intro h; cases h); rw [show D.toN .d2=2 from rfl] at this; exact key c2 (by rw [this]; exact h2) h
 ·have:=ofN_lt hd (by intro h; cases h); rw [show D.toN .d3=3 from rfl] at this; exact key c3 (by rw [this]; exact h3) h
 ·have:=ofN_lt hd (by intro h; cases h); rw [show D.toN .d4=4 from rfl] at this; exact key c4 (by rw [this]; exact h4) h
 ·have:=ofN_lt hd (by intro h; cases h); rw [show D.toN .d5=5 from rfl] at this; exact key c5 (by rw [this]; exact h5) h
 ·have:=ofN_lt hd (by intro h; cases h); rw [show D.toN .d6=6 from rfl] at this; exact key c6 (by rw [this]; exact h6) h
 ·have:=ofN_lt hd (by intro h; cases h); rw [show D.toN .d7=7 from rfl] at this; exact key c7 (by rw [this]; exact h7) h
 ·have:=ofN_lt hd (by intro h; cases h); rw [show D.toN .d8=8 from rfl] at this; exact key c8 (by rw [this]; exact h8) h
 ·have:=ofN_lt hd (by intro h; cases h); rw [show D.toN .d9=9 from rfl] at this; exact key c9 (by rw [this]; exact h9) h
 ·have:=ofN_lt hd (by intro h; cases h); rw [show D.toN .d10=10 from rfl] at this; exact key ca (by rw [this]; exact h10) h
 ·have:=ofN_lt hd (by intro h; cases h); rw [show D.toN .d11=11 from rfl] at this; exact key cb (by rw [this]; exact h11) h
 ·have:=ofN_lt hd (by intro h; cases h); rw [show D.toN .d12=12 from rfl] at this; exact key cc (by rw [this]; exact h12) h
 ·have:=ofN_lt hd (by intro h; cases h); rw [show D.toN .d13=13 from rfl] at this; exact key cd (by rw [this]; exact h13) h
 ·have:=ofN_lt hd (by intro h; cases h); rw [show D.toN .d14=14 from rfl] at this; exact key ce (by rw [this]; exact h14) h
 ·have h:FA.sel (D.ofN (f % 16)) (FB.sel (D.ofN (f / 16 % 16)) H3)=some e:=h
  rw [Q9,Qz] at h; cases h
def Hj (P:Program) (fs:List Nat):Env:={ v:=fun _=>.bool true,ap:=fun f=>@Bool.rec (fun _=>Option ApC) none (L3 P f) (fs.contains f) }
def N3 (P:Program) (g:FuncId):Bool:=match P.funcs[g]? with
 | some fn=>fn.body.isSome && !(fn.name == "runtime.NumGoroutine")
 | none=>false
theorem Pt {g:FuncId} (h:N3 P g=true):JF P g:=by
 unfold N3 at h
 split at h
 ·rename_i fn hfn
  simp only [Bool.and_eq_true,Bool.not_eq_true'] at h
  obtain ⟨c,hc⟩:=Option.isSome_iff_exists.1 h.1
  exact ⟨fn,c,hfn,hc,h.2⟩
 ·cases h
def Xd (P:Program) (f:FuncId):Option Rd:=(L3 P f).bind (S6 P)
theorem C8.mk {fs:List Nat} {f:FuncId} {its:List Nat} {rd:Rd} (hf:fs.contains f=true) (h:Xd P f=some rd) (hb:its.all (N3 P)=true):C8 P (Hj P fs) f (.ap f its rd):=by
 unfold Xd at h
 cases hA:L3 P f with
 | none=>rw [hA] at h; cases h
 | some A =>
  rw [hA] at h
  exact ⟨its,rd,A,rfl,by show @Bool.rec (fun _=>Option ApC) none (L3 P f) (fs.contains f)=_; rw [hf]; exact hA,hA,h,fun g hg=>Pt (List.all_eq_true.1 hb g hg)⟩
theorem Ag.apE {f:FuncId} {e:Ent} (h:C8 P ρ f e):Ag P ρ B f (some e):=fun e' h'=>by cases h'; exact .inr (.inr (.inl h))
theorem Hi.mk {fs:List Nat} {T:FC} (h:∀ f e,KP (BC f) T=some e->MI P (Hj P fs) B f e) (ha:∀ f∈fs,∃ e,KP (BC f) T=some e∧C8 P (Hj P fs) f e):Hi P (Hj P fs) B T:=by
 refine ⟨h,fun f A hA=>?_⟩
 have hA:@Bool.rec (fun _=>Option ApC) none (L3 P f) (fs.contains f)=some A:=hA
 cases hc:fs.contains f with
 | false=>rw [hc] at hA; cases hA
 | true=>exact ha f (List.contains_iff_mem.1 hc)
theorem TB {Q:Nat->Prop}:∀ f∈([]:List Nat),Q f:=fun f h=>by cases h
theorem F3 {Q:Nat->Prop} {x:Nat} {l:List Nat} (h:Q x) (k:∀ f∈l,Q f):∀ f∈x::l,Q f:=fun f hf=>by
 rcases List.mem_cons.1 hf with rfl | hf
 ·exact h
 ·exact k f hf
end
end Go.Ev

namespace Go.Ev
set_option linter.unusedVariables false
open Go.RowKit
def KA:Im:=fun args h n =>
 Gc args fun v l=>Oz l (DC v (.fail "") fun p=>UW p h fun es bs c=>HM h n (.m es bs c) fun h n'=>.rv (.map n) h n')
def Qm (P:Program) (f:FuncId):Option FuncId :=
 match P.funcs[f]? with
 | some fn=>match fn.body with
  | some (.seq (.region _ r0 false) (.seq (.seq (.region _ r1 false) (.cond (.tmp 4) _ .skip)) (.seq (.region _ r3 false) .ret))) =>
   match r0.toList,r1.toList,r3.toList,fn.results.toList with
   | [o1],[o2,o3],[o4,o5,o6,o7,o8],[.tmp s2]=>match o1.op,o2.op,o3.op,o4.op,o5.op,o6.op,o7.op,o8.op with
    | .assign (.const c1),.move (.tmp s0),.binOp .eql t3 (.tmp s3) (.const (.map none)) _,.move (.tmp s0'),.makeInterface t5 (.tmp s5),.call ct,.typeAssert (.tmp s7) _ t7 false,.assign (.tmp s8) =>
     match ct.callee,ct.args.toList,P.underlying t5 with
     | .value (.func g),[.tmp s6],some (.map _ _) =>
      if (fn.name == "runtime.NumGoroutine")=false∧fn.ntmps=9∧s2=2∧s0=0∧s0'=0∧s3=3∧s5=5∧s6=6∧s7=7∧s8=8∧t3=t5∧t7=t5∧o1.dst=some 2∧o2.dst=some 3∧o3.dst=some 4∧o4.dst=some 5∧o5.dst=some 6∧o6.dst=some 7∧o7.dst=some 8∧o8.dst=some 2 ∧
       o1.guard=none∧o2.guard=none∧o3.guard=none∧o4.guard=none∧o5.guard=none∧o6.guard=none∧o7.guard=none∧o8.guard=none then some g else none
     | _,_,_=>none
    | _,_,_,_,_,_,_,_=>none
   | _,_,_,_=>none
  | _=>none
 | none=>none
section
variable {P:Program} {ρ:Env} {B:Nat}
theorem NN (w:World) (t k e:TypeId) (p:Option Nat) (h:P.underlying t=some (.map k e)):(binOp .eql t (.map p) (.map none)).run P w = .ok (.bool p.isNone) w:=by
 have key:∀ d,(Op.equalIn (d+1) t (.map p) (.map none)).run P w = .ok p.isNone w:=fun d=>by cases p <;> simp [Op.equalIn,run_underlying h]
 simp only [binOp]
 simp [show Op.equal t (.map p) (.map none)=Op.equalIn (9999+1) t (.map p) (.map none) from rfl,key 9999]
theorem JG (w:World) (t xT k e:TypeId) (v:Value) (h:P.underlying t=some (.map k e)):(Instr.typeAssert (.iface t v) xT t false).run P w = .ok v w:=by
 simp [Instr.typeAssert,run_underlying h,go_sem,Result.andThen]
theorem RG {w:World} {r:Nat} {es:Array MapEntry} {c:Nat} (t:TypeId) (hb:w.heap[r]? = some (.map es c)) :
  (Extern.MapsClone.clone #[.iface t (.map (some r))]).run P w = .ok (.iface t (.map (some w.heap.size))) (w.alloc (.map es c)):=by
 have e:Extern.MapsClone.clone #[.iface t (.map (some r))]=(getObj r >>= fun o=>match o with
   | .map entries clock=>(newObj (.map entries clock) >>= fun n=>pure (.iface t (.map (some n))))
   | _=>stuck "maps.clone: a map expected"):=rfl
 rw [e]
 have hg:(getObj r).run P w = .ok (.map es c) w:=by simp [getObj,Sem.run,hb]
 simp [hg,Result.andThen,go_sem]
theorem OO {f g:FuncId} (hc:Qm P f=some g) (b:Bare P g Extern.MapsClone.clone):Hr P ρ B f KA:=by
 intro args h n v h1 n1 hx φ w xs gm hr
 have hg:(KA args h n).good:=by rw [hx]; trivial
 unfold KA at hx hg
 obtain ⟨m,l,rfl,q1⟩:=Dz hg
 rw [q1] at hx hg
 obtain ⟨rfl,q2⟩:=Gq hg
 rw [q2] at hx hg
 rcases Dn hg with ⟨_,q3⟩ | ⟨p,rfl,q3⟩
 ·rw [q3] at hg; exact hg.elim
 rw [q3,Kz] at hx hg
 obtain ⟨es,bs,c,hp,q4⟩:=E9 hg
 rw [q4,HX] at hx hg
 obtain ⟨n',hn,q5⟩:=Bs hg
 rw [q5] at hx
 cases hx
 obtain ⟨X,l0,hX,r0,hl0⟩:=AE.1 hr
 have hl0:=AR.1 hl0
 subst hl0
 obtain ⟨bk,s,tot,hφ,rfl⟩:=F9 r0
 obtain ⟨ents,k1,k2,k3⟩:=gm.obj p _ bk s tot hp hφ
 have hxe:xs = #[.map (some bk)]:=by cases xs; simp at hX; rw [hX]
 subst hxe
 unfold Qm at hc
 split at hc
 next fn hfn =>
  split at hc
  next i0 r0 i1 r1 cthen i3 r3 hbody =>
   split at hc
   next o1 o2 o3 o4 o5 o6 o7 o8 s2 e0 e1 e3 ers =>
    split at hc
    next c1 s0 t3 s3 t3' s0' t5 s5 ct s7 t7' t7 s8 p1 p2 p3 p4 p5 p6 p7 p8 =>
     split at hc
     next g' s6 kt et hcal hargs hu =>
      split at hc
      next hc' =>
       cases hc
       obtain ⟨hname,hnt,rfl,rfl,rfl,rfl,rfl,rfl,rfl,rfl,rfl,rfl,d1,d2,d3,d4,d5,d6,d7,d8,g1,g2,g3,g4,g5,g6,g7,g8⟩:=hc'
       have hres:fn.results = #[.tmp 2]:=by cases hh:fn.results with | mk l=>rw [hh] at ers; simp at ers; rw [ers]
       have hcargs:ct.args = #[.tmp 6]:=by cases hh:ct.args with | mk l=>rw [hh] at hargs; simp at hargs; rw [hargs]
       have e1':(callFunc f #[.map (some bk)]).run P w = .ok (.enter f #[.map (some bk)]) w:=by
        have hname':fn.name ≠ "runtime.NumGoroutine":=by simpa using hname
        simp [callFunc,hfn,hname',hbody]
       intro o a K Q hK
       rw [e1']
       refine (callsIn_wide (n:=0)).1 (callsIn_of_wp_marks hfn hbody trivial ?_ rfl)
       rw [hnt]
       simp only [List.size_toArray,List.length_cons,List.length_nil,Nat.reduceAdd,Nat.reduceSub,Array.replicate_succ,Array.replicate_zero,List.push_toArray,List.append_toArray,List.nil_append,List.cons_append]
       refine wpIn_seq (wpIn_region_list ?_)
       rw [e0]
       refine wpListIn_plain g1 fun K1 hK1=>BN (x:=c1) (w':=w) (by simp [execOp,p1,Act.eval]) (hK1 _ _ ?_)
       refine wpListIn_nil ?_
       refine wpIn_seq (wpIn_seq (wpIn_region_list ?_))
       rw [e1,d1]
       refine wpListIn_plain g2 fun K2 hK2=>BN (x:=.map (some bk)) (w':=w) (by simp [execOp,p2,Act.eval,Act.put]) (hK2 _ _ ?_)
       rw [d2]
       refine wpListIn_plain g3 fun K3 hK3=>BN (x:=.bool false) (w':=w) (by simp [execOp,p3,Act.eval,Act.put,eqGuard,NN w _ _ _ _ hu]) (hK3 _ _ ?_)
       rw [d3]
       refine wpListIn_nil (wpIn_cond_false (by simp [Act.eval,Act.put]) (wpIn_skip ?_))
       refine wpIn_seq (wpIn_region_list ?_)
       rw [e3]
       refine wpListIn_plain g4 fun K4 hK4=>BN (x:=.map (some bk)) (w':=w) (by simp [execOp,p4,Act.eval,Act.put]) (hK4 _ _ ?_)
       rw [d4]
       refine wpListIn_plain g5 fun K5 hK5=>BN (x:=.iface t7 (.map (some bk))) (w':=w) (by simp [execOp,p5,Act.eval,Act.put,Instr.makeInterface,run_underlying hu]) (hK5 _ _ ?_)
       rw [d5]
       refine wpListIn_plain g6 fun K6 hK6=>BN (x:=.iface t7 (.map (some w.heap.size))) (w':=w.alloc (.map ents c)) (by
        simp only [execOp,p6,resolve,hcal,hcargs,Deferred.ofValue,Act.eval,Act.put]
        have:=b.run (RG (P:=P) t7 k1)
        simp [invoke,Act.eval,this]) (hK6 _ _ ?_)
       rw [d6]
       refine wpListIn_plain g7 fun K7 hK7=>BN (x:=.map (some w.heap.size)) (w':=w.alloc (.map ents c)) (by simp [execOp,p7,Act.eval,Act.put,JG _ _ _ _ _ _ hu]) (hK7 _ _ ?_)
       rw [d7]
       refine wpListIn_plain g8 fun K8 hK8=>BN (x:=.map (some w.heap.size)) (w':=w.alloc (.map ents c)) (by simp [execOp,p8,Act.eval,Act.put]) (hK8 _ _ ?_)
       rw [d8]
       refine wpListIn_nil (wpIn_ret ?_)
       show LeavesInM Fence.wide 0 P fn _ _ [] .returning (w.alloc (.map ents c))
       unfold LeavesInM LeavesIn
       refine ⟨.map (some w.heap.size),by simp [results,hres,Act.put],?_⟩
       refine hK _ _ ⟨E5 φ n (w.heap.size,0,0),Fr.alloc gm.at_n (by omega) (Nat.le_refl _) (by omega) _ _ 0,gm.alloc gm.at_n (by omega) (by omega) (.m es bs c) rfl _ 0 fun φ' hle w' hw'=>⟨ents,hw',LZ hle k2,k3⟩,?_⟩
       simp only [AG]
       exact ⟨w.heap.size,0,0,BR _ _ _,rfl⟩
      next=>cases hc
     next=>cases hc
    next=>cases hc
   next=>cases hc
  next=>cases hc
 next=>cases hc
end
end Go.Ev

namespace Go.Ev
set_option linter.unusedVariables false
theorem HA.setS_sel (d:D) (p:HA):HA.setS d p (HA.sel d p)=p:=by cases d <;> cases p <;> rfl
theorem HB.setS_sel (d:D) (p:HB):HB.setS d p (HB.sel d p)=p:=by cases d <;> cases p <;> rfl
theorem HC.setS_sel (d:D) (p:HC):HC.setS d p (HC.sel d p)=p:=by cases d <;> cases p <;> rfl
theorem Heap.setS_sel (d:D) (p:Heap):Heap.setS d p (Heap.sel d p)=p:=by cases d <;> cases p <;> rfl
theorem Pu (p:K4) (h:Heap):B5 p h (AL p h)=h:=by
 cases p
 simp only [AL,B5,Fo,Heap.setK_eq,HC.setK_eq,HB.setK_eq,HA.setK_eq,Heap.selK_eq,HC.selK_eq,HB.selK_eq,id,HA.setS_sel,HB.setS_sel,HC.setS_sel,Heap.setS_sel]
def Vi (r:R) (κ:S->Heap->K4->R):R :=
 @R.rec (fun _=>R) (fun e t h n=>@Ex.rec (fun _=>R) (κ t h n) (fun id=>.ok (.exit id) t h n) (.ok .ret t h n) e) (C2 "") (fun w=>.fail w) (fun _ _ a b=>.both a b) r
abbrev OV:=S->Heap->(Nat->S->R)->R->R
def Gw (body:S->Heap->K4->R) (ih:Nat->S->Heap->K4->R) (k:Nat) (t:S) (h:Heap) (n:K4):R :=
 @Nat.rec (fun _=>R) (.fail "") (fun k _=>Vi (body t h n) (ih k)) k
def Mf (body:S->Heap->K4->R) (J:OV) (r:Nat):Nat->S->Heap->K4->R :=
 @Nat.rec (fun _=>Nat->S->Heap->K4->R) (fun k=>Ep body k)
  (fun _ ih k t h n=>J t h (fun j t'=>br (Nat.ble j k) (Ai (Nat.sub k j) fun k=>Gw body ih k t' h n) (Ep body k t h n)) (Gw body ih k t h n)) r
def JP (body:S->Heap->K4->R) (J:OV):S->Heap->K4->R:=Mf body J 1000000 1000000000
def Ki (body:S->Heap->K4->R) (J:OV):Prop :=
 ∀ t h κ κ0,J t h κ κ0=κ0 ∨ ∃ j t',J t h κ κ0=κ j t' ∧ ∀ k n,Ep body (j+k) t h n=Ep body k t' h n
theorem Ds (body:S->Heap->K4->R):∀ (k:Nat) (t:S) (h:Heap) (n:K4),Ep body k t h n=Gw body (Ep body) k t h n
 | 0,_,_,_=>rfl
 | _+1,_,_,_=>rfl
theorem TO {body:S->Heap->K4->R} {J:OV} (H:Ki body J):∀ (r k:Nat),Mf body J r k=Ep body k:=by
 intro r
 induction r with
 | zero=>exact fun _=>rfl
 | succ r ih =>
  intro k
  funext t h n
  have e0:Mf body J (r+1) k t h n=J t h (fun j t'=>br (Nat.ble j k) (Ai (Nat.sub k j) fun k=>Gw body (Mf body J r) k t' h n) (Ep body k t h n)) (Gw body (Mf body J r) k t h n):=rfl
  have ih:Mf body J r=Ep body:=funext ih
  rw [e0,ih]
  rcases H t h (fun j t'=>br (Nat.ble j k) (Ai (Nat.sub k j) fun k=>Gw body (Ep body) k t' h n) (Ep body k t h n)) (Gw body (Ep body) k t h n) with e | ⟨j,t',e,hj⟩
  ·rw [e,←Ds]
  ·rw [e]
   cases hb:Nat.ble j k with
   | false=>rfl
   | true =>
    have hb:=Nat.le_of_ble_eq_true hb
    show Ai (Nat.sub k j) (fun k=>Gw body (Ep body) k t' h n)=_
    rw [Ah,←Ds,show Nat.sub k j=k - j from rfl,←hj (k - j) n,show j+(k - j)=k by omega]
theorem Ix {body:S->Heap->K4->R} {J:OV} (H:Ki body J):Ay body=JP body J:=(TO H 1000000 1000000000).symm
def Dl:S->Heap->K4->R:=fun t h n=>g7 t fun z20=>g6 t fun z21=>An z20 z21 fun z22=>Al z22 (Ad 2 (g5 t fun z23=>A8 z23 fun z24=>A7 2 z24 fun z25=>Aa z25 h fun z26=>g2 t fun z27=>Ae z27 z20 fun z28=>D5 z28 (.int .i64 64) fun z29=>ET (.sc .i) z26 z29 (.bool true) h fun h=>.ok .nrm t h n) fun t h n=>g7 t fun z2a=>Ae z2a (.int .i64 1) fun z2b=>w7 t z2b fun t=>.ok .nrm t h n)<|.ok (.exit 1) t h n
def H5 (v:V) (κ0:R) (κ:Nat->R):R :=
 @V.rec (fun _=>R) (fun _=>Unit) (fun k r=>br (Bj k .i64) (κ r) κ0) (fun _=>κ0) (fun _ _=>κ0) (fun _ _ _ _ _ _=>κ0) (fun _ _=>κ0) (fun _ _=>κ0) (fun _=>κ0) (fun _=>κ0) (fun _ _ _=>κ0) (fun _ _=>κ0) (fun _=>κ0) () (fun _ _ _ _=>()) v
def Uc (v:V) (κ0:R) (κ:K4->Nat->R):R :=
 @V.rec (fun _=>R) (fun _=>Unit) (fun _ _=>κ0) (fun _=>κ0) (fun p o=>κ p o) (fun _ _ _ _ _ _=>κ0) (fun _ _=>κ0) (fun _ _=>κ0) (fun _=>κ0) (fun _=>κ0) (fun _ _ _=>κ0) (fun _ _=>κ0) (fun _=>κ0) () (fun _ _ _ _=>()) v
def U7 (v:V) (κ0:R) (κ:K4->R):R :=
 @V.rec (fun _=>R) (fun _=>Unit) (fun _ _=>κ0) (fun _=>κ0) (fun _ _=>κ0) (fun _ _ _ _ _ _=>κ0) (fun _ _=>κ0) (fun _ _=>κ0) (fun _=>κ0) (fun p=>κ p) (fun _ _ _=>κ0) (fun _ _=>κ0) (fun _=>κ0) () (fun _ _ _ _=>()) v
def JH (v:V):Bool :=
 @V.rec (fun _=>Bool) (fun _=>Unit) (fun _ _=>false) (fun b=>b) (fun _ _=>false) (fun _ _ _ _ _ _=>false) (fun _ _=>false) (fun _ _=>false) (fun _=>false) (fun _=>false) (fun _ _ _=>false) (fun _ _=>false) (fun _=>false) () (fun _ _ _ _=>()) v
def VG (m:Nat):List V->R->(V->R)->R :=
 @Nat.rec (fun _=>List V->R->(V->R)->R) (fun xs κ0 k=>@List.rec V (fun _=>R) κ0 (fun x _ _=>k x) xs)
  (fun _ ih xs κ0 k=>@List.rec V (fun _=>R) κ0 (fun _ ys _=>ih ys κ0 k) xs) m
def Qi (o:Ch) (i:Nat) (κ0:R) (κ:V->R):R :=
 @Option.rec Ob (fun _=>R) κ0 (fun o=>@Ob.rec (fun _=>R) (fun cs _ _=>@Cs.rec (fun _=>R) (fun xs=>VG i xs κ0 κ) (fun _ _=>κ0) cs) (fun _ _ _=>κ0) (fun _ _ _ _=>κ0) κ0 (fun _ _=>κ0) o) o
def Qp (o:Ch) (κ0:R) (κ:List (V×V)->List Nat->R):R :=
 @Option.rec Ob (fun _=>R) κ0 (fun o=>@Ob.rec (fun _=>R) (fun _ _ _=>κ0) (fun es bs _=>κ es bs) (fun _ _ _ _=>κ0) κ0 (fun _ _=>κ0) o) o
def NE (k:Nat) (es:List (V×V)):Bool :=
 @List.rec (V×V) (fun _=>Bool) false (fun e _ ih=>@Prod.rec V V (fun _=>Bool) (fun a b=>@V.rec (fun _=>Bool) (fun _=>Unit) (fun kd r=>br (Bj kd .i64) (br (Nat.beq k r) (JH b) ih) false) (fun _=>false) (fun _ _=>false) (fun _ _ _ _ _ _=>false) (fun _ _=>false) (fun _ _=>false) (fun _=>false) (fun _=>false) (fun _ _ _=>false) (fun _ _=>false) (fun _=>false) () (fun _ _ _ _=>()) a) e) es
def Pq:OV:=fun t h κ κ0=>g7 t fun i=>g6 t fun m=>g2 t fun a=>g5 t fun x =>
 H5 i κ0 fun i0=>H5 m κ0 fun m0=>H5 a κ0 fun a0=>Uc x κ0 fun p off=>Bk p h fun o=>Qi o (Nat.add off 2) κ0 fun u=>U7 u κ0 fun q=>Bk q h fun o=>Qp o κ0 fun es bs =>
  br (Nat.ble m0 4611686018427387904) (br (Nat.ble a0 4611686018427387904) (br (Nat.ble i0 m0) (br (Hu es bs) (Ai (Nat.div (Nat.add a0 i0) 64) fun k=>br (NE k es)
   (Ai (Nat.sub m0 i0) fun j1=>Ai (Nat.sub (Nat.mul 64 (Nat.succ k)) (Nat.add a0 i0)) fun j2=>br (Nat.ble j1 j2) (Ai (Nat.add i0 j1) fun i=>w7 t (.int .i64 i) fun t=>κ j1 t) (Ai (Nat.add i0 j2) fun i=>w7 t (.int .i64 i) fun t=>κ j2 t))
   κ0) κ0) κ0) κ0) κ0
theorem Oy (v:V) (κ0:R) (κ:Nat->R):H5 v κ0 κ=κ0 ∨ ∃ r,v = .int .i64 r∧H5 v κ0 κ=κ r:=by
 cases v with
 | int k r =>
  show br (Bj k .i64) (κ r) κ0=κ0 ∨ ∃ r',V.int k r = .int .i64 r'∧br (Bj k .i64) (κ r) κ0=κ r'
  cases hb:Bj k .i64 with
  | false=>exact .inl rfl
  | true=>exact .inr ⟨r,by rw [Bg.1 hb],rfl⟩
 | _=>exact .inl rfl
theorem SR (v:V) (κ0:R) (κ:K4->Nat->R):Uc v κ0 κ=κ0 ∨ ∃ p o,v = .ptr p o∧Uc v κ0 κ=κ p o:=by
 cases v with
 | ptr p o=>exact .inr ⟨p,o,rfl,rfl⟩
 | _=>exact .inl rfl
theorem Sa (v:V) (κ0:R) (κ:K4->R):U7 v κ0 κ=κ0 ∨ ∃ p,v = .map p∧U7 v κ0 κ=κ p:=by
 cases v with
 | map p=>exact .inr ⟨p,rfl,rfl⟩
 | _=>exact .inl rfl
theorem On:∀ (m:Nat) (xs:List V) (κ0:R) (κ:V->R),VG m xs κ0 κ=κ0 ∨ ∃ v,xs[m]? = some v∧VG m xs κ0 κ=κ v
 | 0,[],_,_=>.inl rfl
 | 0,x::_,_,_=>.inr ⟨x,rfl,rfl⟩
 | m+1,[],_,_=>.inl rfl
 | m+1,x::xs,κ0,κ=>On m xs κ0 κ
theorem Lz:∀ {m:Nat} {xs:List V} {v:V} {κ:V->R},xs[m]? = some v->Ee m xs κ=κ v
 | 0,[],_,_,h=>by cases h
 | 0,x::_,_,_,h=>by cases h; rfl
 | m+1,[],_,_,h=>by cases h
 | m+1,x::xs,v,κ,h=>Lz (m:=m) (xs:=xs) h
theorem RT (o:Ch) (i:Nat) (κ0:R) (κ:V->R):Qi o i κ0 κ=κ0 ∨ ∃ xs sup prev v,o=some (.c (.l xs) sup prev)∧xs[i]? = some v∧Qi o i κ0 κ=κ v:=by
 cases o with
 | none=>exact .inl rfl
 | some o=>cases o with
  | c cs sup prev=>cases cs with
   | l xs =>
    rcases On i xs κ0 κ with e | ⟨v,h,e⟩
    ·exact .inl e
    ·exact .inr ⟨xs,sup,prev,v,rfl,h,e⟩
   | b _ _=>exact .inl rfl
  | _=>exact .inl rfl
theorem RK (o:Ch) (κ0:R) (κ:List (V×V)->List Nat->R):Qp o κ0 κ=κ0 ∨ ∃ es bs c,o=some (.m es bs c)∧Qp o κ0 κ=κ es bs:=by
 cases o with
 | none=>exact .inl rfl
 | some o=>cases o with
  | m es bs c=>exact .inr ⟨es,bs,c,rfl,rfl⟩
  | _=>exact .inl rfl
theorem P4 {v:V} (h:JH v=true):v = .bool true:=by
 cases v with
 | bool b=>rw [show b=true from h]
 | _=>cases h
theorem Qt {k:Nat}:∀ {es:List (V×V)} {κ:List (V×V)->R},NE k es=true->Hv (.sc .i) (.int .i64 k) (.bool true) es κ=κ es
 | [],κ,h=>by cases h
 | (a,b)::es,κ,h=>by
  cases a with
  | int kd r =>
   have h:br (Bj kd .i64) (br (Nat.beq k r) (JH b) (NE k es)) false=true:=h
   cases hk:Bj kd .i64 with
   | false=>rw [hk] at h; cases h
   | true =>
    have hkd:=Bg.1 hk
    subst hkd
    have hx:br (Nat.beq k r) (JH b) (NE k es)=true:=h
    have e0:Hv (.sc .i) (.int .i64 k) (.bool true) ((.int .i64 r,b)::es) κ=CH (Nat.beq k r) fun q=>br q (κ ((.int .i64 k,.bool true)::es)) (Hv (.sc .i) (.int .i64 k) (.bool true) es fun l=>κ ((.int .i64 r,b)::l)):=rfl
    rw [e0,C5]
    cases hb:Nat.beq k r with
    | true =>
     rw [hb] at hx
     rw [P4 (show JH b=true from hx),Nat.eq_of_beq_eq_true hb]; rfl
    | false =>
     rw [hb] at hx
     exact Qt (κ:=fun l=>κ ((.int .i64 r,b)::l)) (show NE k es=true from hx)
  | _=>cases h
theorem Qn {a b:Nat} {κ:V->R} (h:a<b) (hb:b≤4611686018427387904):An (.int .i64 a) (.int .i64 b) κ=κ (.bool true):=by
 have e0:An (.int .i64 a) (.int .i64 b) κ=CH (br (Nat.ble 9223372036854775808 a) (br (Nat.ble 9223372036854775808 b) (Nat.ble (Nat.succ a) b) true) (br (Nat.ble 9223372036854775808 b) false (Nat.ble (Nat.succ a) b))) fun r=>κ (.bool r):=rfl
 have h1:Nat.ble 9223372036854775808 a=false:=Bool.eq_false_iff.2 fun h=>by have:=Nat.le_of_ble_eq_true h; omega
 have h2:Nat.ble 9223372036854775808 b=false:=Bool.eq_false_iff.2 fun h=>by have:=Nat.le_of_ble_eq_true h; omega
 have h3:Nat.ble (Nat.succ a) b=true:=Nat.ble_eq_true_of_le h
 rw [e0,C5,h1,h2,h3]; rfl
theorem KE {a b:Nat} {κ:V->R} (h:a+b<18446744073709551616):Ae (.int .i64 a) (.int .i64 b) κ=κ (.int .i64 (a+b)):=by
 have e0:Ae (.int .i64 a) (.int .i64 b) κ=Ai (Nat.mod (Nat.add a b) 18446744073709551616) fun r=>κ (.int .i64 r):=rfl
 rw [e0,Ah,show Nat.mod (Nat.add a b) 18446744073709551616=a+b from Nat.mod_eq_of_lt h]
theorem W1 {a:Nat} {κ:V->R} (h:a<9223372036854775808):D5 (.int .i64 a) (.int .i64 64) κ=κ (.int .i64 (a / 64)):=by
 have e0:D5 (.int .i64 a) (.int .i64 64) κ=br (Nat.ble (Nat.succ a) 9223372036854775808) (Ai (Nat.div a 64) fun r=>κ (.int .i64 r)) (.fail ""):=rfl
 rw [e0,show Nat.ble (Nat.succ a) 9223372036854775808=true from Nat.ble_eq_true_of_le h]
 show Ai (Nat.div a 64) (fun r=>κ (V.int .i64 r))=κ (V.int .i64 (a / 64))
 rw [Ah]; rfl
theorem FM {id:Nat} {t:S} {h:Heap} {n:K4} {κ:S->Heap->K4->R}:Ad id (.ok .nrm t h n) κ=κ t h n:=rfl
theorem WD {p:K4} {off:Nat} {h:Heap} {xs:List V} {sup:Bool} {prev:Option K4} {v:V} {κ:V->R} (hp:AL p h=some (.c (.l xs) sup prev)) (hv:xs[off]? = some v):Aa (.ptr p off) h κ=κ v:=by
 show R2 p h (fun cs _ _=>FY cs off κ)=_
 rw [GA]
 have e:(IJ p h fun cs _ _=>FY cs off κ)=@Option.rec Ob (fun _=>R) (.fail "") (fun o=>@Ob.rec (fun _=>R) (fun cs _ _=>FY cs off κ) (C2 "") (Fp "") (.fail "") (AV "") o) (AL p h):=DF _ _ _
 rw [e,hp]
 exact Lz hv
theorem WH {q:K4} {h:Heap} {es:List (V×V)} {bs:List Nat} {c k:Nat} {κ:Heap->R} (hq:AL q h=some (.m es bs c)) (hs:Hu es bs=true) (hh:NE k es=true):ET (.sc .i) (.map q) (.int .i64 k) (.bool true) h κ=κ h:=by
 show Ts q h (fun es bs c k'=>Hv (.sc .i) (.int .i64 k) (.bool true) es fun es=>Vf es bs c fun bs c=>k' es bs c) κ=κ h
 rw [Qa]
 have e:∀ F,P1 q h F=@Option.rec Ob (fun _=>R) (.fail "") (fun o=>@Ob.rec (fun _=>R) (C2 "") F (Fp "") (.fail "") (AV "") o) (AL q h):=fun F=>DF _ _ _
 rw [e,hq]
 show Hv (.sc .i) (.int .i64 k) (.bool true) es (fun es'=>Vf es' bs c fun bs c=>Fo q h (some (.m es' bs c)) κ)=κ h
 rw [Qt hh]
 unfold Vf
 rw [hs]
 show Fo q h (some (.m es bs c)) κ=κ h
 rw [Bt,←hq,Pu]
theorem NT {d0 d1 d3 d4:V} {c2 c3 c4 c5 c6 c7:SQ} {h:Heap} {n p q:K4} {off i0 m0 a0 c:Nat} {xs:List V} {sup:Bool} {prev:Option K4} {es:List (V×V)} {bs:List Nat}
  (hp:AL p h=some (.c (.l xs) sup prev)) (hv:xs[off+2]? = some (.map q)) (hq:AL q h=some (.m es bs c)) (hs:Hu es bs=true) (hm:m0≤4611686018427387904) (ha:a0≤4611686018427387904) (hi:i0<m0) (hh:NE ((a0+i0) / 64) es=true) :
  Dl (.mk (.mk d0 d1 (.int .i64 a0) d3) (.mk d4 (.ptr p off) (.int .i64 m0) (.int .i64 i0)) c2 c3 c4 c5 c6 c7) h n = .ok .nrm (.mk (.mk d0 d1 (.int .i64 a0) d3) (.mk d4 (.ptr p off) (.int .i64 m0) (.int .i64 (i0+1))) c2 c3 c4 c5 c6 c7) h n:=by
 have e1:∀ κ:V->R,A8 (.ptr p off) κ=κ (.ptr p off):=fun κ=>rfl
 have e2:∀ κ:V->R,A7 2 (.ptr p off) κ=κ (.ptr p (off+2)):=fun κ=>by
  show Ai (Nat.add off 2) (fun o=>κ (.ptr p o))=_
  rw [Ah]
 unfold Dl
 show An (.int .i64 i0) (.int .i64 m0) _=_
 rw [Qn hi hm]
 show Ad 2 (A8 (.ptr p off) _) _=_
 rw [e1,e2,WD hp hv]
 show Ad 2 (Ae (.int .i64 a0) (.int .i64 i0) _) _=_
 rw [KE (by omega),W1 (by omega),WH hq hs hh,FM]
 show Ae (.int .i64 i0) (.int .i64 1) _=_
 rw [KE (by omega)]
theorem Ic {d0 d1 d3 d4:V} {c2 c3 c4 c5 c6 c7:SQ} {h:Heap} {n p q:K4} {off m0 a0 c k:Nat} {xs:List V} {sup:Bool} {prev:Option K4} {es:List (V×V)} {bs:List Nat}
  (hp:AL p h=some (.c (.l xs) sup prev)) (hv:xs[off+2]? = some (.map q)) (hq:AL q h=some (.m es bs c)) (hs:Hu es bs=true) (hm:m0≤4611686018427387904) (ha:a0≤4611686018427387904) (hh:NE k es=true) :
  ∀ (j i0:Nat),i0+j≤m0->(∀ r,r<j->(a0+(i0+r)) / 64=k)->∀ K,Ep Dl (j+K) (.mk (.mk d0 d1 (.int .i64 a0) d3) (.mk d4 (.ptr p off) (.int .i64 m0) (.int .i64 i0)) c2 c3 c4 c5 c6 c7) h n
   = Ep Dl K (.mk (.mk d0 d1 (.int .i64 a0) d3) (.mk d4 (.ptr p off) (.int .i64 m0) (.int .i64 (i0+j))) c2 c3 c4 c5 c6 c7) h n
 | 0,i0,_,_,K=>by rw [Nat.zero_add]; rfl
 | j+1,i0,hj,hr,K=>by
  have h0:=hr 0 (by omega)
  rw [show j+1+K=(j+K)+1 by omega,Ds]
  show Vi (Dl _ h n) (Ep Dl (j+K))=_
  rw [NT hp hv hq hs hm ha (by omega) (by rw [show a0+i0=a0+(i0+0) by omega,h0]; exact hh)]
  show Ep Dl (j+K) _ h n=_
  rw [Ic hp hv hq hs hm ha hh j (i0+1) (by omega) (fun r hr'=>by have:=hr (r+1) (by omega); rw [←this]; congr 2; omega) K,show i0+1+j=i0+(j+1) by omega]
section
variable {G:R->Prop}
theorem EG {v:V} {κ0:R} {κ:Nat->R} (g0:G κ0) (g1:∀ r,v = .int .i64 r->G (κ r)):G (H5 v κ0 κ):=by
 rcases Oy v κ0 κ with e | ⟨r,h,e⟩ <;> rw [e]
 ·exact g0
 ·exact g1 r h
theorem So {v:V} {κ0:R} {κ:K4->Nat->R} (g0:G κ0) (g1:∀ p o,v = .ptr p o->G (κ p o)):G (Uc v κ0 κ):=by
 rcases SR v κ0 κ with e | ⟨p,o,h,e⟩ <;> rw [e]
 ·exact g0
 ·exact g1 p o h
theorem SW {v:V} {κ0:R} {κ:K4->R} (g0:G κ0) (g1:∀ p,v = .map p->G (κ p)):G (U7 v κ0 κ):=by
 rcases Sa v κ0 κ with e | ⟨p,h,e⟩ <;> rw [e]
 ·exact g0
 ·exact g1 p h
theorem RN {o:Ch} {i:Nat} {κ0:R} {κ:V->R} (g0:G κ0) (g1:∀ xs sup prev v,o=some (.c (.l xs) sup prev)->xs[i]? = some v->G (κ v)):G (Qi o i κ0 κ):=by
 rcases RT o i κ0 κ with e | ⟨xs,sup,prev,v,h,h',e⟩ <;> rw [e]
 ·exact g0
 ·exact g1 xs sup prev v h h'
theorem R7 {o:Ch} {κ0:R} {κ:List (V×V)->List Nat->R} (g0:G κ0) (g1:∀ es bs c,o=some (.m es bs c)->G (κ es bs)):G (Qp o κ0 κ):=by
 rcases RK o κ0 κ with e | ⟨es,bs,c,h,e⟩ <;> rw [e]
 ·exact g0
 ·exact g1 es bs c h
theorem D6 {b:Bool} {x y:R} (g0:G y) (g1:b=true->G x):G (br b x y):=by
 cases b with
 | false=>exact g0
 | true=>exact g1 rfl
theorem GM {p:K4} {h:Heap} {κ:Ch->R} (g:G (κ (AL p h))):G (Bk p h κ):=by rw [Bc]; exact g
theorem HE {m:Nat} {κ:Nat->R} (g:G (κ m)):G (Ai m κ):=by rw [Ah]; exact g
end
theorem PQ:Ki Dl Pq:=by
 intro t h κ κ0
 cases t with
 | mk c0 c1 c2 c3 c4 c5 c6 c7 =>
  cases c0 with
  | mk d0 d1 a d3 =>
   cases c1 with
   | mk d4 x m i =>
    obtain ⟨T,hT⟩:∃ T:S,T = .mk (.mk d0 d1 a d3) (.mk d4 x m i) c2 c3 c4 c5 c6 c7:=⟨_,rfl⟩
    obtain ⟨G,hG⟩:∃ G:R->Prop,∀ r,G r ↔ (r=κ0 ∨ ∃ j t',r=κ j t' ∧ ∀ k n,Ep Dl (j+k) T h n=Ep Dl k t' h n):=⟨_,fun r=>Iff.rfl⟩
    have g0:G κ0:=(hG _).2 (.inl rfl)
    rw [←hT]
    refine (hG _).1 ?_
    rw [hT]
    refine EG (G:=G) g0 fun i0 hi=>EG (G:=G) g0 fun m0 hm=>EG (G:=G) g0 fun a0 ha=>So (G:=G) g0 fun p off hx=>GM (G:=G) (RN (G:=G) g0 fun xs sup prev u hp hv=>SW (G:=G) g0 fun q hu=>?_)
    subst hi hm ha hx hu
    refine GM (G:=G) (R7 (G:=G) g0 fun es bs c hq=>D6 (G:=G) g0 fun b1=>D6 (G:=G) g0 fun b2=>D6 (G:=G) g0 fun b3=>D6 (G:=G) g0 fun b4=>HE (G:=G) (D6 (G:=G) g0 fun b5=>HE (G:=G) (HE (G:=G) ?_)))
    have b1:=Nat.le_of_ble_eq_true b1
    have b2:=Nat.le_of_ble_eq_true b2
    have b3:=Nat.le_of_ble_eq_true b3
    have e1:Nat.sub m0 i0=m0 - i0:=rfl
    have e2:Nat.sub (Nat.mul 64 (Nat.succ (Nat.div (Nat.add a0 i0) 64))) (Nat.add a0 i0)=64*((a0+i0) / 64+1) - (a0+i0):=rfl
    have e3:Nat.div (Nat.add a0 i0) 64=(a0+i0) / 64:=rfl
    rw [e1,e2]
    rw [e3] at b5
    have key:∀ j,j≤m0 - i0->j≤64*((a0+i0) / 64+1) - (a0+i0)->∀ K n,Ep Dl (j+K) (.mk (.mk d0 d1 (.int .i64 a0) d3) (.mk d4 (.ptr p off) (.int .i64 m0) (.int .i64 i0)) c2 c3 c4 c5 c6 c7) h n
      = Ep Dl K (.mk (.mk d0 d1 (.int .i64 a0) d3) (.mk d4 (.ptr p off) (.int .i64 m0) (.int .i64 (i0+j))) c2 c3 c4 c5 c6 c7) h n:=fun j hj1 hj2 K n =>
     Ic hp hv hq b4 b1 b2 b5 j i0 (by omega) (fun r hr=>by omega) K
    cases hb:Nat.ble (m0 - i0) (64*((a0+i0) / 64+1) - (a0+i0)) with
    | true =>
     rw [show ∀ x y:R,br true x y=x from fun _ _=>rfl,Ah]
     refine (hG _).2 (.inr ⟨m0 - i0,_,rfl,fun K n=>?_⟩)
     rw [hT]
     exact key _ (Nat.le_refl _) (Nat.le_of_ble_eq_true hb) K n
    | false =>
     rw [show ∀ x y:R,br false x y=y from fun _ _=>rfl,Ah]
     refine (hG _).2 (.inr ⟨64*((a0+i0) / 64+1) - (a0+i0),_,rfl,fun K n=>?_⟩)
     rw [hT]
     refine key _ ?_ (Nat.le_refl _) K n
     rcases Nat.lt_or_ge (64*((a0+i0) / 64+1) - (a0+i0)) (m0 - i0) with h' | h'
     ·omega
     ·rw [Nat.ble_eq_true_of_le h'] at hb; cases hb
theorem Sm:Ay Dl=JP Dl Pq:=Ix PQ
def IT:S->Heap->K4->R:=fun t h n=>g7 t fun ze=>An ze (.int .i64 8) fun zf=>Al zf (Ad 3 (g3 t fun zg=>CO zg (.int .u64 1) fun zh=>DI zg (.int .u32 1) fun zi=>M0 zi fun zj=>DI (.int .u32 2197175160) zj fun zk=>C3 zh zk fun zl=>w3 t zl fun t=>.ok .nrm t h n) fun t h n=>g7 t fun zm=>Ae zm (.int .i64 1) fun zn=>w7 t zn fun t=>.ok .nrm t h n)<|.ok (.exit 2) t h n
def X7 (v:V) (κ0:R) (κ:Nat->R):R :=
 @V.rec (fun _=>R) (fun _=>Unit) (fun k r=>br (Bj k .u32) (κ r) κ0) (fun _=>κ0) (fun _ _=>κ0) (fun _ _ _ _ _ _=>κ0) (fun _ _=>κ0) (fun _ _=>κ0) (fun _=>κ0) (fun _=>κ0) (fun _ _ _=>κ0) (fun _ _=>κ0) (fun _=>κ0) () (fun _ _ _ _=>()) v
def HW (x:Nat):Nat:=Nat.xor (Nat.shiftRight x 1) (Nat.land 2197175160 (Nat.mod (Nat.add 0 (Nat.sub 4294967296 (Nat.land x 1))) 4294967296))
def FH (j:Nat):Nat->Nat:=@Nat.rec (fun _=>Nat->Nat) (fun x=>x) (fun _ ih x=>ih (HW x)) j
theorem Tg {G:R->Prop} {v:V} {κ0:R} {κ:Nat->R} (g0:G κ0) (g1:∀ r,v = .int .u32 r->G (κ r)):G (X7 v κ0 κ):=by
 cases v with
 | int k r =>
  show G (br (Bj k .u32) (κ r) κ0)
  cases hb:Bj k .u32 with
  | false=>exact g0
  | true=>exact g1 r (by rw [Bg.1 hb])
 | _=>exact g0
theorem QX {x:Nat} (h:x<4294967296):HW x<4294967296:=by
 have h1:x >>> 1<2 ^ 32:=by rw [Nat.shiftRight_eq_div_pow]; omega
 have h2:2197175160 &&& ((0+(4294967296 - (x &&& 1))) % 4294967296)<2 ^ 32:=Nat.lt_of_le_of_lt Nat.and_le_left (by decide)
 exact Nat.xor_lt_two_pow h1 h2
theorem RS {d0 d1 d2 d4 d5 d6:V} {c2 c3 c4 c5 c6 c7:SQ} {h:Heap} {n:K4} {i x:Nat} (hi:i<8) (hx:x<4294967296) :
  IT (.mk (.mk d0 d1 d2 (.int .u32 x)) (.mk d4 d5 d6 (.int .i64 i)) c2 c3 c4 c5 c6 c7) h n = .ok .nrm (.mk (.mk d0 d1 d2 (.int .u32 (HW x))) (.mk d4 d5 d6 (.int .i64 (i+1))) c2 c3 c4 c5 c6 c7) h n:=by
 have e1:∀ κ:V->R,CO (.int .u32 x) (.int .u64 1) κ=κ (.int .u32 (Nat.shiftRight x 1)):=fun κ=>by
  have e0:CO (.int .u32 x) (.int .u64 1) κ=br (Nat.ble (Nat.succ x) 4294967296) (Ai (Nat.shiftRight x 1) fun r=>κ (.int .u32 r)) (.fail ""):=rfl
  rw [e0,show Nat.ble (Nat.succ x) 4294967296=true from Nat.ble_eq_true_of_le hx]
  show Ai (Nat.shiftRight x 1) (fun r=>κ (V.int .u32 r))=_
  rw [Ah]
 have e2:∀ (a b:Nat) (κ:V->R),DI (.int .u32 a) (.int .u32 b) κ=κ (.int .u32 (Nat.land a b)):=fun a b κ=>by
  have e0:DI (.int .u32 a) (.int .u32 b) κ=Ai (Nat.land a b) fun r=>κ (.int .u32 r):=rfl
  rw [e0,Ah]
 have e3:∀ (a b:Nat) (κ:V->R),C3 (.int .u32 a) (.int .u32 b) κ=κ (.int .u32 (Nat.xor a b)):=fun a b κ=>by
  have e0:C3 (.int .u32 a) (.int .u32 b) κ=Ai (Nat.xor a b) fun r=>κ (.int .u32 r):=rfl
  rw [e0,Ah]
 have e4:∀ (a:Nat) (κ:V->R),M0 (.int .u32 a) κ=κ (.int .u32 (Nat.mod (Nat.add 0 (Nat.sub 4294967296 a)) 4294967296)):=fun a κ=>by
  have e0:M0 (.int .u32 a) κ=Ai (Nat.mod (Nat.add 0 (Nat.sub 4294967296 a)) 4294967296) fun r=>κ (.int .u32 r):=rfl
  rw [e0,Ah]
 unfold IT
 show An (.int .i64 i) (.int .i64 8) _=_
 rw [Qn hi (by omega)]
 show Ad 3 (CO (.int .u32 x) (.int .u64 1) _) _=_
 rw [e1,e2,e4,e2,e3,FM]
 show Ae (.int .i64 i) (.int .i64 1) _=_
 rw [KE (by omega)]; rfl
theorem KH {d0 d1 d2 d4 d5 d6:V} {c2 c3 c4 c5 c6 c7:SQ} {h:Heap} {n:K4} :
  ∀ (j i x:Nat),i+j≤8->x<4294967296->∀ K,Ep IT (j+K) (.mk (.mk d0 d1 d2 (.int .u32 x)) (.mk d4 d5 d6 (.int .i64 i)) c2 c3 c4 c5 c6 c7) h n
   = Ep IT K (.mk (.mk d0 d1 d2 (.int .u32 (FH j x))) (.mk d4 d5 d6 (.int .i64 (i+j))) c2 c3 c4 c5 c6 c7) h n
 | 0,i,x,_,_,K=>by rw [Nat.zero_add]; rfl
 | j+1,i,x,hj,hx,K=>by
  rw [show j+1+K=(j+K)+1 by omega,Ds]
  show Vi (IT _ h n) (Ep IT (j+K))=_
  rw [RS (by omega) hx]
  show Ep IT (j+K) _ h n=_
  rw [KH j (i+1) (HW x) (by omega) (QX hx) K,show i+1+j=i+(j+1) by omega]; rfl
end Go.Ev

namespace Go.Ev
set_option linter.unusedVariables false
theorem JC (x:Nat):HW x=(x >>> 1) ^^^ (if x % 2=1 then 2197175160 else 0):=by
 show (x >>> 1) ^^^ (2197175160 &&& ((0+(4294967296 - (x &&& 1))) % 4294967296))=_
 rw [Nat.and_one_is_mod]
 rcases Nat.mod_two_eq_zero_or_one x with h | h <;> rw [h] <;> rfl
theorem Te (a b:Nat):HW (a ^^^ b)=HW a ^^^ HW b:=by
 rw [JC,JC,JC,Nat.shiftRight_xor_distrib]
 have h:(a ^^^ b) % 2=(a+b) % 2:=by
  have e:=Nat.xor_mod_two_pow (a:=a) (b:=b) (n:=1)
  rw [Nat.pow_one] at e
  rw [e]
  rcases Nat.mod_two_eq_zero_or_one a with ha | ha <;> rcases Nat.mod_two_eq_zero_or_one b with hb | hb <;> rw [ha,hb,Nat.add_mod,ha,hb] <;> rfl
 rcases Nat.mod_two_eq_zero_or_one a with ha | ha <;> rcases Nat.mod_two_eq_zero_or_one b with hb | hb
 ·have:(a ^^^ b) % 2=0:=by omega
  simp [ha,hb,this]
 ·have:(a ^^^ b) % 2=1:=by omega
  simp [ha,hb,this,Nat.xor_assoc]
 ·have:(a ^^^ b) % 2=1:=by omega
  simp only [ha,hb,this,if_true,if_false,Nat.xor_zero,reduceIte,Nat.zero_ne_one]
  simp only [Nat.xor_assoc,Nat.xor_comm (b >>> 1)]
 ·have:(a ^^^ b) % 2=0:=by omega
  simp only [ha,hb,this,reduceIte,Nat.xor_zero,Nat.zero_ne_one]
  generalize a >>> 1=p
  generalize b >>> 1=q
  apply Nat.eq_of_testBit_eq
  intro i
  simp only [Nat.testBit_xor]
  cases p.testBit i <;> cases q.testBit i <;> cases (2197175160:Nat).testBit i <;> rfl
theorem Oe:∀ (j a b:Nat),FH j (a ^^^ b)=FH j a ^^^ FH j b
 | 0,_,_=>rfl
 | j+1,a,b=>by
  show FH j (HW (a ^^^ b))=FH j (HW a) ^^^ FH j (HW b)
  rw [Te,Oe]
theorem S0 (m:Nat):HW (2*m)=m:=by
 rw [JC,Nat.mul_mod_right,Nat.shiftRight_eq_div_pow]; simp
theorem Og:∀ (j q:Nat),FH j (2 ^ j*q)=q
 | 0,q=>by show 2 ^ 0*q=q; omega
 | j+1,q=>by
  show FH j (HW (2 ^ (j+1)*q))=q
  rw [show 2 ^ (j+1)*q=2*(2 ^ j*q) by rw [Nat.pow_succ,Nat.mul_comm (2 ^ j) 2,Nat.mul_assoc],S0,Og]
theorem RC (y:Nat):y=(2 ^ 8*(y / 2 ^ 8)) ^^^ (y % 2 ^ 8):=by
 apply Nat.eq_of_testBit_eq
 intro i
 rw [Nat.testBit_xor,Nat.testBit_two_pow_mul,Nat.testBit_mod_two_pow,Nat.testBit_div_two_pow]
 by_cases h:8≤i
 ·have h2:¬ i<8:=by omega
  simp [h,h2,show i - 8+8=i by omega]
 ·have h2:i<8:=by omega
  simp [h,h2]
theorem Qd:∀ (j:Nat) {x:Nat},x<4294967296->FH j x<4294967296
 | 0,_,h=>h
 | j+1,x,h=>by show FH j (HW x)<_; exact Qd j (QX h)
def N4:Nat:=739192992287711479272199505450802174180944935565270117958735211195864883404034321072575759094604862722103638970562105654534965976895685875045062592379112792078985738769595739548904202597956689934399229134939183684703714920378025961387270778473281346239181994539903784708069763525514523240966634758967547723819948093640238732618841930738396489733218495472825776362786651876001733504161834172818020394346043168775838788836904094212573134772649703407841545716218812283123984658267516726659948613643534969466376019494666614718815429190684246327365394372519258139400530706807260825564948901732507176286259752944669944548605679086391305931301222988237278526118373278492307487107474296386730408839343753629123128283572704772544098648517013212824233746728729854273945055038163572363387039908578405517982904131040319505009390255243990278860523606265815895619710957563380635837315129012976704357344131429050367435482781212454439427280336740616644805562249867251859340971513883299426874200217165290071196282711253218164865174241416073419876796213293517950780480733835793334181716730049909888366296838117288969681076010175182486226749959458237712061794030512295298309798453151350168298336411933176330063767835252143862258384197256040876755067274410026075604127347481305827849130625987059819492849891529288490451730106428376839488665315100810248841715739596040091270955624355315201462555945279029196416991040143682248153287045556144390819759753283690710943841433520922330785319143598322120010359670046292912296136999474302691355293324886616216537430761212949134977443278613456733727644009057088654822989287437792990360527449046917776586498554113667460252688333953726837853077886002223252717428049737186417130969568838070377296274375688487884511950345697105344492065413654582468965021167618282726469469929715764674333614324035309623813703284835732759643444816186743644084768553800456975483023122915759126937036001171360984116527371042249105866775992680472790331893395027602898497596949565462107432141452181910127216554936352241472142685417685618824675396402282974391037184848625305334079832924861339728594832024687877422901193159812755254516361032103358958860399075665489958680801135040793967932263797765198140728704255468134266160630916650637156666977854355604551105352627939572551570066195951258251545213658746024110892771407706843609824354401912642345941057507434795836161327506684973593222243082074173577446865175872619707633030268690896528048779238513612740446475572226293760
abbrev N7 (y:Nat):Nat:=Nat.xor (Nat.shiftRight y 8) (Nat.land (Nat.shiftRight N4 (Nat.mul 32 (Nat.land y 255))) 4294967295)
theorem UC:Vx (fun b=>Nat.beq (FH 8 b) (Nat.land (Nat.shiftRight N4 (Nat.mul 32 b)) 4294967295)) 256=true:=by kernel_rfl
theorem Ql (y:Nat):N7 y=FH 8 y:=by
 have h255:Nat.land y 255=y % 2 ^ 8:=Nat.and_two_pow_sub_one_eq_mod y 8
 have hb:y % 2 ^ 8<256:=Nat.mod_lt _ (by decide)
 have key:FH 8 (y % 2 ^ 8)=Nat.land (Nat.shiftRight N4 (Nat.mul 32 (y % 2 ^ 8))) 4294967295:=Nat.eq_of_beq_eq_true (U4 UC _ hb)
 have e:FH 8 y=FH 8 (2 ^ 8*(y / 2 ^ 8)) ^^^ FH 8 (y % 2 ^ 8):=by rw [←Oe,←RC]
 rw [e,Og,key]
 show Nat.xor (Nat.shiftRight y 8) (Nat.land (Nat.shiftRight N4 (Nat.mul 32 (Nat.land y 255))) 4294967295)=_
 rw [h255]
 show (y >>> 8) ^^^ _=_
 rw [Nat.shiftRight_eq_div_pow]
theorem XB {a b:Nat} {κ:V->R} (h:b≤a) (ha:a≤4611686018427387904):An (.int .i64 a) (.int .i64 b) κ=κ (.bool false):=by
 have e0:An (.int .i64 a) (.int .i64 b) κ=CH (br (Nat.ble 9223372036854775808 a) (br (Nat.ble 9223372036854775808 b) (Nat.ble (Nat.succ a) b) true) (br (Nat.ble 9223372036854775808 b) false (Nat.ble (Nat.succ a) b))) fun r=>κ (.bool r):=rfl
 have h1:Nat.ble 9223372036854775808 a=false:=Bool.eq_false_iff.2 fun h=>by have:=Nat.le_of_ble_eq_true h; omega
 have h2:Nat.ble 9223372036854775808 b=false:=Bool.eq_false_iff.2 fun h=>by have:=Nat.le_of_ble_eq_true h; omega
 have h3:Nat.ble (Nat.succ a) b=false:=Bool.eq_false_iff.2 fun h=>by have:=Nat.le_of_ble_eq_true h; omega
 rw [e0,C5,h1,h2,h3]; rfl
theorem Sb {p:K4} {off len cap esz i:Nat} {ex:Bool} {κ:V->R} (h:i<len) (hi:i<9223372036854775808):Aq esz (.sl p off len cap ex esz) (.int .i64 i) κ=κ (.ptr p (off+i*esz)):=by
 have e0:Aq esz (.sl p off len cap ex esz) (.int .i64 i) κ=br (Nat.ble (Nat.succ i) 9223372036854775808) (br (Nat.beq esz esz) (br (Nat.ble (Nat.succ i) len) (Ai (Nat.add off (Nat.mul i esz)) fun o=>κ (.ptr p o)) (.fail "")) (.fail "")) (.fail ""):=rfl
 rw [e0,show Nat.ble (Nat.succ i) 9223372036854775808=true from Nat.ble_eq_true_of_le hi,show Nat.ble (Nat.succ i) len=true from Nat.ble_eq_true_of_le h,show Nat.beq esz esz=true from Nat.beq_refl _]
 show Ai (Nat.add off (Nat.mul i esz)) (fun o=>κ (.ptr p o))=_
 rw [Ah]; rfl
theorem ST {p:K4} {off m c:Nat} {h:Heap} {sup:Bool} {prev:Option K4} {κ:V->R} (hp:AL p h=some (.c (.b m c) sup prev)) (hv:off<m):Aa (.ptr p off) h κ=κ (.int .u8 (lo (sh c off) 1)):=by
 show R2 p h (fun cs _ _=>FY cs off κ)=_
 rw [GA]
 have e:(IJ p h fun cs _ _=>FY cs off κ)=@Option.rec Ob (fun _=>R) (.fail "") (fun o=>@Ob.rec (fun _=>R) (fun cs _ _=>FY cs off κ) (C2 "") (Fp "") (.fail "") (AV "") o) (AL p h):=DF _ _ _
 rw [e,hp]
 show br (Nat.ble (Nat.succ off) m) (Ai (lo (sh c off) 1) fun r=>κ (.int .u8 r)) (.fail "")=_
 rw [show Nat.ble (Nat.succ off) m=true from Nat.ble_eq_true_of_le hv]
 show Ai (lo (sh c off) 1) (fun r=>κ (V.int .u8 r))=_
 rw [Ah]
theorem Qk (c:Nat):lo c 1<256:=by rw [DE]; exact Nat.mod_lt _ (by decide)
theorem QJ (c a:Nat):sh (sh c a) 1=sh c (a+1):=by
 rw [EE,EE,EE,Nat.div_div_eq_div_mul,←Nat.pow_add]
def slE (v:V) (κ0:R) (κ:K4->Nat->Nat->Nat->R):R :=
 @V.rec (fun _=>R) (fun _=>Unit) (fun _ _=>κ0) (fun _=>κ0) (fun _ _=>κ0) (fun p off len _ _ esz=>κ p off len esz) (fun _ _=>κ0) (fun _ _=>κ0) (fun _=>κ0) (fun _=>κ0) (fun _ _ _=>κ0) (fun _ _=>κ0) (fun _=>κ0) () (fun _ _ _ _=>()) v
theorem QI {G:R->Prop} {v:V} {κ0:R} {κ:K4->Nat->Nat->Nat->R} (g0:G κ0) (g1:∀ p off len cap ex esz,v = .sl p off len cap ex esz->G (κ p off len esz)):G (slE v κ0 κ):=by
 cases v with
 | sl p off len cap ex esz=>exact g1 p off len cap ex esz rfl
 | _=>exact g0
def VW (o:Ch) (κ0:R) (κ:Nat->Nat->R):R :=
 @Option.rec Ob (fun _=>R) κ0 (fun o=>@Ob.rec (fun _=>R) (fun cs _ _=>@Cs.rec (fun _=>R) (fun _=>κ0) κ cs) (fun _ _ _=>κ0) (fun _ _ _ _=>κ0) κ0 (fun _ _=>κ0) o) o
theorem OU {G:R->Prop} {o:Ch} {κ0:R} {κ:Nat->Nat->R} (g0:G κ0) (g1:∀ n c sup prev,o=some (.c (.b n c) sup prev)->G (κ n c)):G (VW o κ0 κ):=by
 cases o with
 | none=>exact g0
 | some o=>cases o with
  | c cs sup prev=>cases cs with
   | l xs=>exact g0
   | b n c=>exact g1 n c sup prev rfl
  | _=>exact g0
def XR (v:V) (κ0:R) (κ:Nat->R):R :=
 @V.rec (fun _=>R) (fun _=>Unit) (fun k r=>br (Bj k .u64) (κ r) κ0) (fun _=>κ0) (fun _ _=>κ0) (fun _ _ _ _ _ _=>κ0) (fun _ _=>κ0) (fun _ _=>κ0) (fun _=>κ0) (fun _=>κ0) (fun _ _ _=>κ0) (fun _ _=>κ0) (fun _=>κ0) () (fun _ _ _ _=>()) v
theorem Sy {G:R->Prop} {v:V} {κ0:R} {κ:Nat->R} (g0:G κ0) (g1:∀ r,v = .int .u64 r->G (κ r)):G (XR v κ0 κ):=by
 cases v with
 | int k r =>
  show G (br (Bj k .u64) (κ r) κ0)
  cases hb:Bj k .u64 with
  | false=>exact g0
  | true=>exact g1 r (by rw [Bg.1 hb])
 | _=>exact g0
def EN:S->Heap->K4->R:=fun t h n=>g6 t fun z5=>g5 t fun z6=>An z5 z6 fun z7=>Al z7 (Ad 1 (g4 t fun z8=>Aq 1 z8 z5 fun z9=>Aa z9 h fun za=>g3 t fun zb=>AX .u32 za fun zc=>C3 zb zc fun zd=>Ad 2 (w3 t zd fun t=>w7 t (.int .i64 0) fun t=>Ay IT t h n) fun t h n=>.ok .nrm t h n) fun t h n=>g6 t fun zo=>Ae zo (.int .i64 1) fun zp=>w6 t zp fun t=>.ok .nrm t h n)<|.ok (.exit 0) t h n
def Nq (j:Nat):Nat->Nat->Nat:=@Nat.rec (fun _=>Nat->Nat->Nat) (fun _ x=>x) (fun _ ih d x=>ih (sh d 1) (N7 (Nat.xor x (lo d 1)))) j
def Vn (j:Nat):Nat->Nat->(Nat->R)->R:=@Nat.rec (fun _=>Nat->Nat->(Nat->R)->R) (fun _ x κ=>κ x) (fun _ ih d x κ=>Ai (Nat.xor x (lo d 1)) fun y=>Ai (N7 y) fun x=>Ai (sh d 1) fun d=>ih d x κ) j
theorem QW:∀ (j d x:Nat) (κ:Nat->R),Vn j d x κ=κ (Nq j d x)
 | 0,_,_,_=>rfl
 | j+1,d,x,κ=>by
  show Ai (Nat.xor x (lo d 1)) (fun y=>Ai (N7 y) fun x=>Ai (sh d 1) fun d=>Vn j d x κ)=κ (Nq j (sh d 1) (N7 (Nat.xor x (lo d 1))))
  rw [Ah,Ah,Ah,QW]
theorem UY (d j:Nat):lo (lo d (j+1)) 1=lo d 1:=by
 rw [DE,DE,DE,Nat.pow_succ,Nat.mod_mul_left_mod]
theorem UU (d j:Nat):sh (lo d (j+1)) 1=lo (sh d 1) j:=by
 rw [DE,DE,EE,EE,Nat.pow_succ,Nat.pow_one,Nat.mul_comm,Nat.mod_mul_right_div_self]
theorem QP:∀ (j d x:Nat),Nq j (lo d j) x=Nq j d x
 | 0,_,_=>rfl
 | j+1,d,x=>by
  show Nq j (sh (lo d (j+1)) 1) (N7 (Nat.xor x (lo (lo d (j+1)) 1)))=Nq j (sh d 1) (N7 (Nat.xor x (lo d 1)))
  rw [UY,UU,QP]
def SO:OV:=fun t h κ κ0=>g6 t fun i=>g5 t fun m=>g4 t fun s=>g3 t fun x=>H5 i κ0 fun i0=>H5 m κ0 fun m0=>slE s κ0 fun p off len esz=>X7 x κ0 fun x0=>Bk p h fun o=>VW o κ0 fun nb c =>
 br (Nat.ble (Nat.succ i0) m0) (br (Nat.ble m0 len) (br (Nat.ble (Nat.add off len) nb) (br (Nat.beq esz 1) (br (Nat.ble (Nat.succ x0) 4294967296) (br (Nat.ble m0 4611686018427387904)
  (Ai (Nat.sub m0 i0) fun j=>Ai (lo (sh c (Nat.add off i0)) j) fun d=>Vn j d x0 fun x=>w3 t (.int .u32 x) fun t=>w6 t (.int .i64 m0) fun t=>w7 t (.int .i64 8) fun t=>κ j t) κ0) κ0) κ0) κ0) κ0) κ0
theorem To (body:S->Heap->K4->R) (k:Nat) (t:S) (h:Heap) (n:K4):Ep body (k+1) t h n=Vi (body t h n) (Ep body k):=Ds body (k+1) t h n
theorem Of {id:Nat} {t:S} {h:Heap} {n:K4} {κ:S->Heap->K4->R}:Ad id (.ok (.exit id) t h n) κ=κ t h n:=by
 show br (Nat.beq id id) (κ t h n) (.ok (.exit id) t h n)=κ t h n
 rw [Nat.beq_refl]; rfl
theorem Rt {d0 d1 d2 d4 d5 d6:V} {c2 c3 c4 c5 c6 c7:SQ} {h:Heap} {n:K4} {x:Nat} (hx:x<4294967296) :
  Ay IT (.mk (.mk d0 d1 d2 (.int .u32 x)) (.mk d4 d5 d6 (.int .i64 0)) c2 c3 c4 c5 c6 c7) h n = .ok (.exit 2) (.mk (.mk d0 d1 d2 (.int .u32 (FH 8 x))) (.mk d4 d5 d6 (.int .i64 8)) c2 c3 c4 c5 c6 c7) h n:=by
 show Ep IT 1000000000 _ _ _=_
 rw [show (1000000000:Nat)=8+(999999991+1) from rfl,KH 8 0 x (by omega) hx,To]
 have e:IT (.mk (.mk d0 d1 d2 (.int .u32 (FH 8 x))) (.mk d4 d5 d6 (.int .i64 (0+8))) c2 c3 c4 c5 c6 c7) h n = .ok (.exit 2) (.mk (.mk d0 d1 d2 (.int .u32 (FH 8 x))) (.mk d4 d5 d6 (.int .i64 (0+8))) c2 c3 c4 c5 c6 c7) h n:=by
  unfold IT
  show An (.int .i64 (0+8)) (.int .i64 8) _=_
  rw [XB (by omega) (by omega)]; rfl
 rw [e]; rfl
theorem TI {k:IntKind} {r:Nat} {κ:V->R} (h:r<256) (hk:256≤Mk k):AX k (.int .u8 r) κ=κ (.int k r):=by
 have e0:AX k (.int .u8 r) κ=br (Nat.ble (Nat.succ r) 256) (Ai (Nat.mod r (Mk k)) fun r=>κ (.int k r)) (br (Nat.ble (Mk k) 256) (Ai (Nat.mod r (Mk k)) fun r=>κ (.int k r)) (Ai (Nat.sub (Mk k) (Nat.sub 256 r)) fun r=>κ (.int k r))):=rfl
 rw [e0,show Nat.ble (Nat.succ r) 256=true from Nat.ble_eq_true_of_le h]
 show Ai (Nat.mod r (Mk k)) (fun r=>κ (V.int k r))=_
 rw [Ah,show Nat.mod r (Mk k)=r from Nat.mod_eq_of_lt (by omega)]
theorem Ks {d0 d1 d2 d7:V} {c2 c3 c4 c5 c6 c7:SQ} {h:Heap} {n p:K4} {off len cap m i x nb c:Nat} {ex sup:Bool} {prev:Option K4}
  (hp:AL p h=some (.c (.b nb c) sup prev)) (hi:i<m) (hm:m≤len) (hl:off+len≤nb) (hb:m≤4611686018427387904) (hx:x<4294967296) :
  EN (.mk (.mk d0 d1 d2 (.int .u32 x)) (.mk (.sl p off len cap ex 1) (.int .i64 m) (.int .i64 i) d7) c2 c3 c4 c5 c6 c7) h n
   = .ok .nrm (.mk (.mk d0 d1 d2 (.int .u32 (N7 (Nat.xor x (lo (sh c (off+i)) 1))))) (.mk (.sl p off len cap ex 1) (.int .i64 m) (.int .i64 (i+1)) (.int .i64 8)) c2 c3 c4 c5 c6 c7) h n:=by
 unfold EN
 show An (.int .i64 i) (.int .i64 m) _=_
 rw [Qn hi hb]
 show Ad 1 (Aq 1 (.sl p off len cap ex 1) (.int .i64 i) _) _=_
 rw [Sb (by omega) (by omega),ST hp (by omega)]
 show Ad 1 (AX .u32 (.int .u8 (lo (sh c (off+i*1)) 1)) _) _=_
 rw [TI (Qk _) (by decide),Nat.mul_one]
 have e3:∀ (a b:Nat) (κ:V->R),C3 (.int .u32 a) (.int .u32 b) κ=κ (.int .u32 (Nat.xor a b)):=fun a b κ=>by
  have e0:C3 (.int .u32 a) (.int .u32 b) κ=Ai (Nat.xor a b) fun r=>κ (.int .u32 r):=rfl
  rw [e0,Ah]
 rw [e3]
 have hx2:Nat.xor x (lo (sh c (off+i)) 1)<4294967296:=Nat.xor_lt_two_pow (n:=32) hx (Nat.lt_trans (Qk _) (by decide))
 rw [Ql]
 generalize Nat.xor x (lo (sh c (off+i)) 1)=y at hx2
 show Ad 1 (Ad 2 (Ay IT (.mk (.mk d0 d1 d2 (.int .u32 y)) (.mk (.sl p off len cap ex 1) (.int .i64 m) (.int .i64 i) (.int .i64 0)) c2 c3 c4 c5 c6 c7) h n) _) _=_
 rw [Rt hx2,Of,FM]
 show Ae (.int .i64 i) (.int .i64 1) _=_
 rw [KE (by omega)]
theorem J9 {d0 d1 d2:V} {c2 c3 c4 c5 c6 c7:SQ} {h:Heap} {n p:K4} {off len cap m nb c:Nat} {ex sup:Bool} {prev:Option K4}
  (hp:AL p h=some (.c (.b nb c) sup prev)) (hm:m≤len) (hl:off+len≤nb) (hb:m≤4611686018427387904) :
  ∀ (j i x:Nat) (d7:V),i+(j+1)≤m->x<4294967296->∀ K,Ep EN (j+1+K) (.mk (.mk d0 d1 d2 (.int .u32 x)) (.mk (.sl p off len cap ex 1) (.int .i64 m) (.int .i64 i) d7) c2 c3 c4 c5 c6 c7) h n
   = Ep EN K (.mk (.mk d0 d1 d2 (.int .u32 (Nq (j+1) (sh c (off+i)) x))) (.mk (.sl p off len cap ex 1) (.int .i64 m) (.int .i64 (i+(j+1))) (.int .i64 8)) c2 c3 c4 c5 c6 c7) h n
 | 0,i,x,d7,hj,hx,K=>by
  rw [show 0+1+K=K+1 by omega,Ds]
  show Vi (EN _ h n) (Ep EN K)=_
  rw [Ks hp (by omega) hm hl hb hx]; rfl
 | j+1,i,x,d7,hj,hx,K=>by
  rw [show j+1+1+K=(j+1+K)+1 by omega,Ds]
  show Vi (EN _ h n) (Ep EN (j+1+K))=_
  rw [Ks hp (by omega) hm hl hb hx]
  show Ep EN (j+1+K) _ h n=_
  rw [J9 hp hm hl hb j (i+1) _ _ (by omega) (by rw [Ql]; exact Qd 8 (Nat.xor_lt_two_pow (n:=32) hx (Nat.lt_trans (Qk _) (by decide)))) K]
  have e:Nq (j+1+1) (sh c (off+i)) x=Nq (j+1) (sh (sh c (off+i)) 1) (N7 (Nat.xor x (lo (sh c (off+i)) 1))):=rfl
  rw [e,QJ,show off+(i+1)=off+i+1 by omega,show i+1+(j+1)=i+(j+1+1) by omega]
theorem Rl:Ki EN SO:=by
 intro t h κ κ0
 cases t with
 | mk c0 c1 c2 c3 c4 c5 c6 c7 =>
  cases c0 with
  | mk d0 d1 d2 x =>
   cases c1 with
   | mk s m i d7 =>
    obtain ⟨T,hT⟩:∃ T:S,T = .mk (.mk d0 d1 d2 x) (.mk s m i d7) c2 c3 c4 c5 c6 c7:=⟨_,rfl⟩
    obtain ⟨G,hG⟩:∃ G:R->Prop,∀ r,G r ↔ (r=κ0 ∨ ∃ j t',r=κ j t' ∧ ∀ k n,Ep EN (j+k) T h n=Ep EN k t' h n):=⟨_,fun r=>Iff.rfl⟩
    have g0:G κ0:=(hG _).2 (.inl rfl)
    rw [←hT]
    refine (hG _).1 ?_
    rw [hT]
    refine EG (G:=G) g0 fun i0 hi=>EG (G:=G) g0 fun m0 hm=>QI (G:=G) g0 fun p off len cap ex esz hs=>Tg (G:=G) g0 fun x0 hx=>GM (G:=G) (OU (G:=G) g0 fun nb c sup prev hp=>?_)
    subst hi hm hs hx
    refine D6 (G:=G) g0 fun b1=>D6 (G:=G) g0 fun b2=>D6 (G:=G) g0 fun b3=>D6 (G:=G) g0 fun b4=>D6 (G:=G) g0 fun b5=>D6 (G:=G) g0 fun b6=>?_
    have b1:=Nat.le_of_ble_eq_true b1
    have b2:=Nat.le_of_ble_eq_true b2
    have b3:off+len≤nb:=Nat.le_of_ble_eq_true b3
    have b4:=Nat.eq_of_beq_eq_true b4
    have b5:=Nat.le_of_ble_eq_true b5
    have b6:=Nat.le_of_ble_eq_true b6
    subst b4
    obtain ⟨j,hj⟩:∃ j,Nat.sub m0 i0=j+1:=⟨m0 - i0 - 1,by show m0 - i0=_; omega⟩
    have hj':m0 - i0=j+1:=hj
    rw [hj,Ah,Ah,QW,QP]
    refine (hG _).2 (.inr ⟨j+1,_,rfl,fun K n=>?_⟩)
    rw [hT,J9 hp b2 b3 b6 j i0 x0 d7 (by omega) b5 K,show i0+(j+1)=m0 by omega]; rfl
theorem Ux:Ay EN=JP EN SO:=Ix Rl
def Fl:S->Heap->K4->R:=fun t h n=>g5 t fun z3=>g4 t fun z4=>An z3 z4 fun z5=>Al z5 (Ad 1 (g3 t fun z6=>Aq 1 z6 z3 fun z7=>Aa z7 h fun z8=>g2 t fun z9=>H9 z9 (.int .u64 8) fun za=>AX .u64 z8 fun zb=>N0 za zb fun zc=>w2 t zc fun t=>.ok .nrm t h n) fun t h n=>g5 t fun zd=>Ae zd (.int .i64 1) fun ze=>w5 t ze fun t=>.ok .nrm t h n)<|.ok (.exit 0) t h n
abbrev J8 (x b:Nat):Nat:=Nat.lor (Nat.mod (Nat.shiftLeft x 8) 18446744073709551616) b
def HR (j:Nat):Nat->Nat->Nat:=@Nat.rec (fun _=>Nat->Nat->Nat) (fun _ x=>x) (fun _ ih d x=>ih (sh d 1) (J8 x (lo d 1))) j
def Sr (j:Nat):Nat->Nat->(Nat->R)->R:=@Nat.rec (fun _=>Nat->Nat->(Nat->R)->R) (fun _ x κ=>κ x) (fun _ ih d x κ=>Ai (J8 x (lo d 1)) fun x=>Ai (sh d 1) fun d=>ih d x κ) j
theorem O2:∀ (j d x:Nat) (κ:Nat->R),Sr j d x κ=κ (HR j d x)
 | 0,_,_,_=>rfl
 | j+1,d,x,κ=>by
  show Ai (J8 x (lo d 1)) (fun x=>Ai (sh d 1) fun d=>Sr j d x κ)=κ (HR j (sh d 1) (J8 x (lo d 1)))
  rw [Ah,Ah,O2]
theorem OG:∀ (j d x:Nat),HR j (lo d j) x=HR j d x
 | 0,_,_=>rfl
 | j+1,d,x=>by
  show HR j (sh (lo d (j+1)) 1) (J8 x (lo (lo d (j+1)) 1))=HR j (sh d 1) (J8 x (lo d 1))
  rw [UY,UU,OG]
def SP:OV:=fun t h κ κ0=>g5 t fun i=>g4 t fun m=>g3 t fun s=>g2 t fun x=>H5 i κ0 fun i0=>H5 m κ0 fun m0=>slE s κ0 fun p off len esz=>XR x κ0 fun x0=>Bk p h fun o=>VW o κ0 fun nb c =>
 br (Nat.ble (Nat.succ i0) m0) (br (Nat.ble m0 len) (br (Nat.ble (Nat.add off len) nb) (br (Nat.beq esz 1) (br (Nat.ble m0 4611686018427387904)
  (Ai (Nat.sub m0 i0) fun j=>Ai (lo (sh c (Nat.add off i0)) j) fun d=>Sr j d x0 fun x=>w2 t (.int .u64 x) fun t=>w5 t (.int .i64 m0) fun t=>κ j t) κ0) κ0) κ0) κ0) κ0
theorem PE {d0 d1 d6 d7:V} {c2 c3 c4 c5 c6 c7:SQ} {h:Heap} {n p:K4} {off len cap m i x nb c:Nat} {ex sup:Bool} {prev:Option K4}
  (hp:AL p h=some (.c (.b nb c) sup prev)) (hi:i<m) (hm:m≤len) (hl:off+len≤nb) (hb:m≤4611686018427387904) :
  Fl (.mk (.mk d0 d1 (.int .u64 x) (.sl p off len cap ex 1)) (.mk (.int .i64 m) (.int .i64 i) d6 d7) c2 c3 c4 c5 c6 c7) h n
   = .ok .nrm (.mk (.mk d0 d1 (.int .u64 (J8 x (lo (sh c (off+i)) 1))) (.sl p off len cap ex 1)) (.mk (.int .i64 m) (.int .i64 (i+1)) d6 d7) c2 c3 c4 c5 c6 c7) h n:=by
 unfold Fl
 show An (.int .i64 i) (.int .i64 m) _=_
 rw [Qn hi hb]
 show Ad 1 (Aq 1 (.sl p off len cap ex 1) (.int .i64 i) _) _=_
 rw [Sb (by omega) (by omega),ST hp (by omega),Nat.mul_one]
 have e1:∀ (κ:V->R),H9 (.int .u64 x) (.int .u64 8) κ=κ (.int .u64 (Nat.mod (Nat.shiftLeft x 8) 18446744073709551616)):=fun κ=>by
  have e0:H9 (.int .u64 x) (.int .u64 8) κ=Ai (Nat.mod (Nat.shiftLeft x 8) 18446744073709551616) fun r=>κ (.int .u64 r):=rfl
  rw [e0,Ah]
 have e2:∀ (a b:Nat) (κ:V->R),N0 (.int .u64 a) (.int .u64 b) κ=κ (.int .u64 (Nat.lor a b)):=fun a b κ=>by
  have e0:N0 (.int .u64 a) (.int .u64 b) κ=Ai (Nat.lor a b) fun r=>κ (.int .u64 r):=rfl
  rw [e0,Ah]
 show Ad 1 (H9 (.int .u64 x) (.int .u64 8) _) _=_
 rw [e1,TI (Qk _) (by decide),e2,FM]
 show Ae (.int .i64 i) (.int .i64 1) _=_
 rw [KE (by omega)]
theorem Jm {d0 d1 d6 d7:V} {c2 c3 c4 c5 c6 c7:SQ} {h:Heap} {n p:K4} {off len cap m nb c:Nat} {ex sup:Bool} {prev:Option K4}
  (hp:AL p h=some (.c (.b nb c) sup prev)) (hm:m≤len) (hl:off+len≤nb) (hb:m≤4611686018427387904) :
  ∀ (j i x:Nat),i+j≤m->∀ K,Ep Fl (j+K) (.mk (.mk d0 d1 (.int .u64 x) (.sl p off len cap ex 1)) (.mk (.int .i64 m) (.int .i64 i) d6 d7) c2 c3 c4 c5 c6 c7) h n
   = Ep Fl K (.mk (.mk d0 d1 (.int .u64 (HR j (sh c (off+i)) x)) (.sl p off len cap ex 1)) (.mk (.int .i64 m) (.int .i64 (i+j)) d6 d7) c2 c3 c4 c5 c6 c7) h n
 | 0,i,x,hj,K=>by rw [Nat.zero_add]; rfl
 | j+1,i,x,hj,K=>by
  rw [show j+1+K=(j+K)+1 by omega,Ds]
  show Vi (Fl _ h n) (Ep Fl (j+K))=_
  rw [PE hp (by omega) hm hl hb]
  show Ep Fl (j+K) _ h n=_
  rw [Jm hp hm hl hb j (i+1) _ (by omega) K]
  have e:HR (j+1) (sh c (off+i)) x=HR j (sh (sh c (off+i)) 1) (J8 x (lo (sh c (off+i)) 1)):=rfl
  rw [e,QJ,show off+(i+1)=off+i+1 by omega,show i+1+j=i+(j+1) by omega]
theorem R4:Ki Fl SP:=by
 intro t h κ κ0
 cases t with
 | mk c0 c1 c2 c3 c4 c5 c6 c7 =>
  cases c0 with
  | mk d0 d1 x s =>
   cases c1 with
   | mk m i d6 d7 =>
    obtain ⟨T,hT⟩:∃ T:S,T = .mk (.mk d0 d1 x s) (.mk m i d6 d7) c2 c3 c4 c5 c6 c7:=⟨_,rfl⟩
    obtain ⟨G,hG⟩:∃ G:R->Prop,∀ r,G r ↔ (r=κ0 ∨ ∃ j t',r=κ j t' ∧ ∀ k n,Ep Fl (j+k) T h n=Ep Fl k t' h n):=⟨_,fun r=>Iff.rfl⟩
    have g0:G κ0:=(hG _).2 (.inl rfl)
    rw [←hT]
    refine (hG _).1 ?_
    rw [hT]
    refine EG (G:=G) g0 fun i0 hi=>EG (G:=G) g0 fun m0 hm=>QI (G:=G) g0 fun p off len cap ex esz hs=>Sy (G:=G) g0 fun x0 hx=>GM (G:=G) (OU (G:=G) g0 fun nb c sup prev hp=>?_)
    subst hi hm hs hx
    refine D6 (G:=G) g0 fun b1=>D6 (G:=G) g0 fun b2=>D6 (G:=G) g0 fun b3=>D6 (G:=G) g0 fun b4=>D6 (G:=G) g0 fun b6=>?_
    have b1:=Nat.le_of_ble_eq_true b1
    have b2:=Nat.le_of_ble_eq_true b2
    have b3:off+len≤nb:=Nat.le_of_ble_eq_true b3
    have b4:=Nat.eq_of_beq_eq_true b4
    have b6:=Nat.le_of_ble_eq_true b6
    subst b4
    rw [Ah,Ah,O2,OG]
    refine (hG _).2 (.inr ⟨Nat.sub m0 i0,_,rfl,fun K n=>?_⟩)
    rw [hT,Jm hp b2 b3 b6 (Nat.sub m0 i0) i0 x0 (by show i0+(m0 - i0)≤m0; omega) K,show i0+Nat.sub m0 i0=m0 by show i0+(m0 - i0)=m0; omega]; rfl
theorem TT:Ay Fl=JP Fl SP:=Ix R4
end Go.Ev

namespace Go.Ev
set_option linter.unusedVariables false
def J2 (r:Nat) (f:Nat->R):R:=@Nat.rec (fun _=>R) (.fail "") (fun m ih=>@Nat.rec (fun _=>R) (f 0) (fun _ _=>.both ih (f m)) m) r
theorem Rj {f:Nat->R} {Φ:R->Prop}:∀ {r:Nat},(J2 r f).sat Φ->∀ i,i<r->(f i).sat Φ:=by
 intro r
 induction r with
 | zero=>intro _ i hi; omega
 | succ m ih =>
  intro hs i hi
  cases m with
  | zero =>
   have:i=0:=by omega
   subst this; exact hs
  | succ m =>
   have hs:(R.both (J2 (m+1) f) (f (m+1))).sat Φ:=hs
   by_cases e:i=m+1
   ·subst e; exact hs.2
   ·exact ih hs.1 i (by omega)
def Ng (m m' j:Nat) (h:Heap) (n:K4):R :=
 br (Nat.beq m' (Nat.add 36893488147419103232 m)) (Ai (Nat.mod j 18446744073709551616) fun lo=>Ai (Nat.div j 18446744073709551616) fun hi=>.rv (.oth (.iv .i64 lo hi)) h n) (.fail "")
def N1:Im:=fun args h n =>
 Gc args fun v l=>Gc l fun q l=>Oz l (FP q fun k m=>br (Bj k .i64) (br (Nat.ble 1 m) (br (Nat.ble m 1000000)
  (Yb v (fun m' j=>br (Nat.beq m' m) (.rv (.int .i64 j) h n) (Ng m m' j h n))<|HI v fun j lo hi=>br (Bj j .i64) (br (Nat.beq lo hi) (br (Nat.ble (Nat.succ lo) 9223372036854775808) (Ai (Nat.mod lo m) fun i=>.rv (.int .i64 i) h n) (J2 m fun i=>.rv (.int .i64 i) h n)) (J2 m fun i=>.rv (.int .i64 i) h n)) (.fail "")) (.fail "")) (.fail "")) (.fail ""))
theorem Dc {P:Program} {f:FuncId} {fn:Func} {c:Code} {xs:Array Value} {w:World} {R:Value->World->Prop} (hf:P.funcs[f]? = some fn) (hb:fn.body=some c) (hn:(fn.name == "runtime.NumGoroutine")=false)
  (h:Calls P f xs w fun e w'=>∃ v,e = .returned v∧R v w'):HV P f xs w R:=by
 intro o a K Q hK
 have hn':fn.name ≠ "runtime.NumGoroutine":=by simpa using hn
 have e:(callFunc f xs).run P w = .ok (.enter f xs) w:=by simp [callFunc,hf,hn',hb]
 rw [e]
 show Calls P f xs w _
 refine h.mono fun e w' ⟨v,he,hv⟩=>?_
 subst he
 exact hK v w' hv
def OI (r:Nat) (m:Nat):Nat->Nat->(Nat->R)->R :=
 @Nat.rec (fun _=>Nat->Nat->(Nat->R)->R) (fun _ a κ=>κ a)
  (fun _ ih c a κ=>br (Nat.beq (lo c 1) r) (Ai (sh c 1) fun d=>Ai (Nat.succ a) fun a=>ih d a κ) (Ai (sh c 1) fun d=>ih d a κ)) m
theorem TN (b:UInt8) (l:List UInt8):∀ (a:Nat) (κ:Nat->R),OI b.toNat l.length (B7 l) a κ=κ (a+Lib.countByte l b):=by
 induction l with
 | nil=>intro a κ; show κ a=κ (a+Lib.countByte [] b); simp [Lib.countByte]
 | cons x l ih =>
  intro a κ
  have hx:=x.toNat_lt
  have e0:lo (B7 (x::l)) 1=x.toNat:=by rw [DE]; simp only [B7]; omega
  have e1:sh (B7 (x::l)) 1=B7 l:=by rw [EE]; simp only [B7]; omega
  have e2:OI b.toNat (x::l).length (B7 (x::l)) a κ=br (Nat.beq x.toNat b.toNat) (OI b.toNat l.length (B7 l) (a+1) κ) (OI b.toNat l.length (B7 l) a κ):=by
   have:OI b.toNat (x::l).length (B7 (x::l)) a κ=br (Nat.beq (lo (B7 (x::l)) 1) b.toNat) (Ai (sh (B7 (x::l)) 1) fun d=>Ai (Nat.succ a) fun a=>OI b.toNat l.length d a κ) (Ai (sh (B7 (x::l)) 1) fun d=>OI b.toNat l.length d a κ):=rfl
   rw [this,e0,e1,Ah,Ah,Ah]
  rw [e2,ih,ih]
  have hc:Lib.countByte (x::l) b=Lib.countByte l b+if x == b then 1 else 0:=by unfold Lib.countByte; rw [List.count_cons]
  rw [hc]
  by_cases hb:x=b
  ·subst hb
   rw [Nat.beq_refl,AQ]; simp; congr 1; omega
  ·have h1:Nat.beq x.toNat b.toNat=false:=by
    cases h:Nat.beq x.toNat b.toNat with
    | false=>rfl
    | true=>exact absurd (UInt8.toNat_inj.1 (Nat.eq_of_beq_eq_true h)) hb
   have h2:(x == b)=false:=by simpa using hb
   rw [h1,AO,h2]; simp
def Dx:Im:=fun args h n =>
 Gc args fun x l=>Gc l fun y l=>Oz l (Bl x fun m c=>FP y fun k r=>br (Bj k .u8) (br (Nat.ble m 1000000000) (OI r m c 0 fun i=>.rv (.int .i64 i) h n) (.fail "")) (.fail ""))
theorem Gx {P:Program} {ρ:Env} {B:Nat} {f:FuncId} (b:Bare P f Extern.BytealgCount.count):Hr P ρ B f Dx:=by
 intro args h n v h1 n1 hx φ w xs g hr
 have hg:(Dx args h n).good:=by rw [hx]; trivial
 unfold Dx at hx hg
 obtain ⟨x,l,rfl,q1⟩:=Dz hg
 rw [q1] at hx hg
 obtain ⟨y,l,rfl,q2⟩:=Dz hg
 rw [q2] at hx hg
 obtain ⟨rfl,q3⟩:=Gq hg
 rw [q3] at hx
 obtain ⟨m,c,rfl,hx⟩:=OC hx
 obtain ⟨k,r,rfl,hx⟩:=Po hx
 obtain ⟨hk,hx⟩:=M6 hx
 have:=Bg.1 hk
 subst this
 obtain ⟨hm,hx⟩:=M6 hx
 have hm:=Ap.1 hm
 obtain ⟨x1,ys,hxs,hr1,hr⟩:=AE.1 hr
 obtain ⟨x2,ys,rfl,hr2,hr⟩:=AE.1 hr
 obtain rfl:=AR.1 hr
 obtain ⟨s,rfl,hsz,hc⟩:=(by simpa only [AG] using hr1:∃ s:ByteArray,x1 = .string s∧s.size=m∧B7 s.data.toList=c)
 obtain ⟨hlt,rfl⟩:=(by simpa only [AG] using hr2:r<Mk .u8∧x2 = .int .u8 (BF .u8 r))
 have hlt:r<256:=hlt
 have hdec:BF .u8 r=(r:Int):=AA (by show r<256; exact hlt)
 obtain rfl:xs = #[.string s,.int .u8 (BF .u8 r)]:=by cases xs; simp at hxs; simp [hxs]
 rw [hdec]
 refine b.runs (Lib.run_countString s r w) ⟨φ,?_⟩
 have hb:((r:Int).toNat.toUInt8).toNat=r:=by
  simp only [Int.toNat_natCast]
  exact UInt8.toNat_ofNat_of_lt' (show r<2 ^ 8 from hlt)
 have hl:s.data.toList.length=m:=by rw [←hsz]; rfl
 have key:=TN ((r:Int).toNat.toUInt8) s.data.toList 0 (fun i=>R.rv (.int .i64 i) h n)
 rw [hb,hl,hc] at key
 rw [key] at hx
 have hle:Lib.countByte s.data.toList ((r:Int).toNat.toUInt8)≤m:=by rw [←hl]; exact List.count_le_length
 cases hx
 refine ⟨Fr.refl h φ n w,g,?_⟩
 simp only [AG]
 rw [Nat.zero_add]
 have h9:Lib.countByte s.data.toList ((r:Int).toNat.toUInt8)<9223372036854775808:=by omega
 exact ⟨Nat.lt_trans h9 (by decide),congrArg (Value.int .i64) (AA (k:=.i64) h9).symm⟩
def QV (P:Program) (f:FuncId):Prop :=
 ∀ (x k:Int) (w:World),-9223372036854775808≤x->x<9223372036854775808->0<k->k≤1000000->Calls P f #[.int .i64 x,.int .i64 k] w fun e w'=>e = .returned (.int .i64 ((x.natAbs % k.toNat:Nat):Int))∧w'=w
section
variable {P:Program} {ρ:Env} {B:Nat}
theorem NB {f:FuncId} {fn:Func} (hf:P.funcs[f]? = some fn) (hb:fn.body.isSome=true) (hn:(fn.name == "runtime.NumGoroutine")=false) (hS:QV P f):P7 P ρ B f N1:=by
 intro args h n Φ hs φ w xs g hr
 unfold N1 at hs
 obtain ⟨v,l,rfl,q1⟩:=Dz (R.sat_good hs)
 rw [q1] at hs
 obtain ⟨q,l,rfl,q2⟩:=Dz (R.sat_good hs)
 rw [q2] at hs
 obtain ⟨rfl,q3⟩:=Gq (R.sat_good hs)
 rw [q3] at hs
 obtain ⟨k,m,rfl,q4⟩:=Cd (R.sat_good hs)
 rw [q4] at hs
 obtain ⟨hk,q5⟩:=Ao (R.sat_good hs)
 rw [q5] at hs
 obtain rfl:=Bg.1 hk
 obtain ⟨hm1,q6⟩:=Ao (R.sat_good hs)
 rw [q6] at hs
 obtain ⟨hm2,q7⟩:=Ao (R.sat_good hs)
 rw [q7] at hs
 have hm1:=Ap.1 hm1; have hm2:=Ap.1 hm2
 rcases LU v (fun m' j=>br (Nat.beq m' m) (.rv (.int .i64 j) h n) (Ng m m' j h n)) (HI v fun j lo hi=>br (Bj j .i64) (br (Nat.beq lo hi) (br (Nat.ble (Nat.succ lo) 9223372036854775808) (Ai (Nat.mod lo m) fun i=>.rv (.int .i64 i) h n) (J2 m fun i=>.rv (.int .i64 i) h n)) (J2 m fun i=>.rv (.int .i64 i) h n)) (.fail "")) with ⟨m',j,rfl,q8⟩ | q8
 ·rw [q8] at hs
  cases hmm:Nat.beq m' m with
  | true =>
   rw [hmm] at hs
   have hs:(R.rv (.int .i64 j) h n).sat Φ:=hs
   have hmm:=Nat.eq_of_beq_eq_true hmm
   subst hmm
   obtain ⟨X,ys,hX,r0,hr⟩:=AE.1 hr
   obtain ⟨Y,ys,rfl,r1,hr⟩:=AE.1 hr
   obtain rfl:=AR.1 hr
   simp only [AG] at r0
   obtain ⟨z,rfl,z1,z2,z3,_⟩:=r0
   have z3:z.natAbs % (m' % 18446744073709551616)=j:=by
    rcases z3 with ⟨_,z3⟩ | ⟨z3,_⟩
    ·exact z3
    ·omega
   rw [Nat.mod_eq_of_lt (by omega:m'<18446744073709551616)] at z3
   obtain ⟨_,rfl⟩:=BQ r1
   have hxs:xs = #[.int .i64 z,.int .i64 (BF .i64 m')]:=by cases xs; simp at hX; rw [hX]
   subst hxs
   have edm:BF .i64 m'=(m':Int):=AA (by simp only [Hk]; omega)
   rw [edm]
   obtain ⟨c,hc⟩:=Option.isSome_iff_exists.1 hb
   refine Dc hf hc hn ((hS z _ w z1 z2 (by omega) (by omega)).mono fun e w' ⟨he,hw⟩=>⟨_,he,?_⟩)
   subst hw
   rw [Int.toNat_natCast,z3]
   have hj:j<m':=by rw [←z3]; exact Nat.mod_lt _ (by omega)
   refine ⟨.int .i64 j,h,n,φ,hs,Fr.refl h φ n _,g,?_⟩
   simp only [AG]
   exact ⟨by simp only [Mk]; omega,congrArg (Value.int .i64) (AA (k:=.i64) (by simp only [Hk]; omega)).symm⟩
  | false =>
   rw [hmm] at hs
   have hs9:(Ng m m' j h n).sat Φ:=hs
   unfold Ng at hs9
   obtain ⟨hm9,q9⟩:=Ao (R.sat_good hs9)
   rw [q9,Ah,Ah] at hs9
   have hm9:m'=36893488147419103232+m:=Nat.eq_of_beq_eq_true hm9
   subst hm9
   obtain ⟨X,ys,hX,r0,hr⟩:=AE.1 hr
   obtain ⟨Y,ys,rfl,r1,hr⟩:=AE.1 hr
   obtain rfl:=AR.1 hr
   simp only [AG] at r0
   obtain ⟨z,rfl,z1,z2,z3,_⟩:=r0
   have z3:j % 18446744073709551616≤z.natAbs % m∧z.natAbs % m≤j / 18446744073709551616:=by
    rcases z3 with ⟨z3,_⟩ | ⟨_,z3⟩
    ·omega
    ·rwa [show (36893488147419103232+m) % 18446744073709551616=m by omega] at z3
   obtain ⟨_,rfl⟩:=BQ r1
   have hxs:xs = #[.int .i64 z,.int .i64 (BF .i64 m)]:=by cases xs; simp at hX; rw [hX]
   subst hxs
   have edm:BF .i64 m=(m:Int):=AA (by simp only [Hk]; omega)
   rw [edm]
   obtain ⟨c,hc⟩:=Option.isSome_iff_exists.1 hb
   refine Dc hf hc hn ((hS z _ w z1 z2 (by omega) (by omega)).mono fun e w' ⟨he,hw⟩=>⟨_,he,?_⟩)
   subst hw
   rw [Int.toNat_natCast]
   have hj:z.natAbs % m<m:=Nat.mod_lt _ (by omega)
   refine ⟨_,h,n,φ,hs9,Fr.refl h φ n _,g,?_⟩
   simp only [AG]
   exact ⟨z.natAbs % m,z3.1,z3.2,by simp only [Mk]; omega,congrArg (Value.int .i64) (AA (k:=.i64) (by simp only [Hk]; omega)).symm⟩
 rw [q8] at hs
 obtain ⟨j,lo,hi,q8,H⟩:=C9 (R.sat_good hs)
 rw [q8] at hs
 obtain ⟨hj,q9⟩:=Ao (R.sat_good hs)
 rw [q9] at hs
 obtain rfl:=Bg.1 hj
 obtain ⟨X,ys,hX,r0,hr⟩:=AE.1 hr
 obtain ⟨Y,ys,rfl,r1,hr⟩:=AE.1 hr
 obtain rfl:=AR.1 hr
 obtain ⟨r,h1,h2,h3,rfl⟩:=H ρ φ X r0
 obtain ⟨_,rfl⟩:=BQ r1
 have hxs:xs = #[.int .i64 (BF .i64 r),.int .i64 (BF .i64 m)]:=by cases xs; simp at hX; rw [hX]
 subst hxs
 have hM:Mk .i64=18446744073709551616:=rfl
 have hH:Hk .i64=9223372036854775808:=rfl
 have edm:BF .i64 m=(m:Int):=AA (by omega)
 rw [edm]
 have hd : -9223372036854775808≤BF .i64 r∧BF .i64 r<9223372036854775808:=by
  by_cases hr:r<Hk .i64
  ·rw [AA hr]; omega
  ·rw [CL hr]; omega
 obtain ⟨c,hc⟩:=Option.isSome_iff_exists.1 hb
 have hlt:(BF .i64 r).natAbs % (m:Int).toNat<m:=by rw [Int.toNat_natCast]; exact Nat.mod_lt _ (by omega)
 have all:(∀ i,i<m->Φ (.rv (.int .i64 i) h n))->HV P f #[.int .i64 (BF .i64 r),.int .i64 (m:Int)] w fun x w'=>∃ v h1 n1 φ',Φ (.rv v h1 n1)∧Fr h h1 φ φ' n n1 w w'∧Gam ρ B h1 n1 φ' w'∧AG ρ φ' v x:=fun HΦ =>
  Dc hf hc hn ((hS _ _ w hd.1 hd.2 (by omega) (by omega)).mono fun e w' ⟨he,hw⟩=>⟨_,he,by
   subst hw
   refine ⟨.int .i64 ((BF .i64 r).natAbs % (m:Int).toNat),h,n,φ,HΦ _ hlt,Fr.refl h φ n _,g,?_⟩
   simp only [AG]
   have h9:(BF .i64 r).natAbs % (m:Int).toNat<9223372036854775808:=by
    generalize (BF .i64 r).natAbs % (m:Int).toNat=q at hlt
    omega
   exact ⟨by rw [hM]; exact Nat.lt_trans h9 (by decide),congrArg (Value.int .i64) (AA (k:=.i64) (by rw [hH]; exact h9)).symm⟩⟩)
 have ways:(J2 m fun i=>R.rv (.int .i64 i) h n).sat Φ->HV P f #[.int .i64 (BF .i64 r),.int .i64 (m:Int)] w fun x w'=>∃ v h1 n1 φ',Φ (.rv v h1 n1)∧Fr h h1 φ φ' n n1 w w'∧Gam ρ B h1 n1 φ' w'∧AG ρ φ' v x:=fun hs=>all fun i hi=>Rj hs i hi
 cases e1:Nat.beq lo hi with
 | false=>rw [e1] at hs; exact ways hs
 | true =>
  rw [e1] at hs
  have e1:=Nat.eq_of_beq_eq_true e1
  have hs:(br (Nat.ble (Nat.succ lo) 9223372036854775808) (Ai (Nat.mod lo m) fun i=>.rv (.int .i64 i) h n) (J2 m fun i=>.rv (.int .i64 i) h n)).sat Φ:=hs
  cases e2:Nat.ble (Nat.succ lo) 9223372036854775808 with
  | false=>rw [e2] at hs; exact ways hs
  | true =>
   rw [e2,AQ,Ah] at hs
   have e2:lo+1≤9223372036854775808:=Ap.1 e2
   have er:r=lo:=by omega
   subst er
   have hdr:BF .i64 r=(r:Int):=AA (by omega)
   rw [hdr]
   refine Dc hf hc hn ((hS _ _ w (by omega) (by omega) (by omega) (by omega)).mono fun e w' ⟨he,hw⟩=>⟨_,he,?_⟩)
   subst hw
   refine ⟨.int .i64 (r % m),h,n,φ,hs,Fr.refl h φ n _,g,?_⟩
   simp only [AG]
   have:=Nat.mod_lt r (show m > 0 by omega)
   exact ⟨by omega,by rw [AA (by omega)]; simp⟩
end
abbrev iI (n:Nat):V:=.int .i64 n
abbrev iW (n:Nat):V:=.int .u32 n
abbrev iB (n:Nat):V:=.int .u8 n
abbrev iL (n:Nat):V:=.int .u64 n
abbrev nR (t:S) (h:Heap) (n:K4):R:=.ok .nrm t h n
abbrev rT (t:S) (h:Heap) (n:K4):R:=.ok .ret t h n
def o8 (i:Nat):O8:=@Nat.rec (fun _=>O8) .d0 (fun i _=>@Nat.rec (fun _=>O8) .d1 (fun i _=>@Nat.rec (fun _=>O8) .d2 (fun i _=>@Nat.rec (fun _=>O8) .d3 (fun i _=>@Nat.rec (fun _=>O8) .d4 (fun i _=>@Nat.rec (fun _=>O8) .d5 (fun i _=>@Nat.rec (fun _=>O8) .d6 (fun _ _=>.d7) i) i) i) i) i) i) i
def o4 (i:Nat):O4:=@Nat.rec (fun _=>O4) .d0 (fun i _=>@Nat.rec (fun _=>O4) .d1 (fun i _=>@Nat.rec (fun _=>O4) .d2 (fun _ _=>.d3) i) i) i
def mS (l:List Nat):SM:=@List.rec Nat (fun _=>Nat->SM) (fun _=>[]) (fun p _ ih i=>(⟨D.ofN (Nat.div p 16),D.ofN (Nat.mod p 16)⟩,⟨o8 (Nat.div i 4),o4 (Nat.mod i 4)⟩)::ih (Nat.succ i)) l 0
theorem P6 {α:Type} {p:α->Bool} {l:List α} (k:Nat) (h1:((l.take k).all fun x=>!p x)=true) (h2:((l.drop k).all fun x=>!p x)=true):(l.all fun x=>!p x)=true:=by
 rw [←List.take_append_drop k l,List.all_append,h1,h2]; rfl
theorem Up {P:Program} (h:(P.funcs.toList.all fun fn=>!fn.goes)=true) (func:String):P.goesAt .entering func=false:=by
 have key:∀ g:Nat,(P.funcs[g]?).any Func.goes=false:=fun g=>by
  cases hx:P.funcs[g]? with
  | none=>rfl
  | some fn =>
   have hm:fn∈P.funcs.toList:=by
    rw [←Array.getElem?_toList] at hx
    exact List.mem_of_getElem? hx
   have:=List.all_eq_true.1 h fn hm
   simpa using this
 have hp:P.funcs.any Func.goes=false:=by
  rw [←Array.any_toList,Bool.eq_false_iff]
  intro hc
  obtain ⟨fn,hm,hg⟩:=List.any_eq_true.1 hc
  have:=List.all_eq_true.1 h fn hm
  rw [hg] at this; cases this
 have hgo:∀ f,P.goes f=false:=fun f=>by
  unfold Program.goes
  rw [hp,Bool.and_false,Bool.or_false,Bool.eq_false_iff]
  intro hc
  simp only [key] at hc
  simp at hc
 unfold Program.goesAt Program.goesFrom
 cases P.funcNamed func with
 | none=>rfl
 | some f=>simp [hgo f]
end Go.Ev

namespace Go.Ev
set_option linter.unusedVariables false
abbrev Cq:=Nat->Option (Array Value×TypeId×(Nat×Nat))
def K9 (P:Program) (fs:List Nat) (gl:Cq):Env:={ Hj P fs with gl:=gl }
theorem Xj {P:Program} {fs:List Nat} {gl:Cq}:Bq (K9 P fs gl):=fun _=>rfl
section
variable {P:Program} {ρ:Env} {B:Nat}
theorem C8.gl {fs:List Nat} {gl:Cq} {f:FuncId} {e:Ent} (h:C8 P (Hj P fs) f e):C8 P (K9 P fs gl) f e:=h
theorem Hi.mkG {fs:List Nat} {gl:Cq} {T:FC} (h:∀ f e,KP (BC f) T=some e->MI P (K9 P fs gl) B f e) (ha:∀ f∈fs,∃ e,KP (BC f) T=some e∧C8 P (K9 P fs gl) f e):Hi P (K9 P fs gl) B T:=by
 refine ⟨h,fun f A hA=>?_⟩
 have hA:@Bool.rec (fun _=>Option ApC) none (L3 P f) (fs.contains f)=some A:=hA
 cases hc:fs.contains f with
 | false=>rw [hc] at hA; cases hA
 | true=>exact ha f (List.contains_iff_mem.1 hc)
def P8 (P:Program) (gl:Cq) (name:String) (k:IntKind) (zs:List Int):Prop:=∃ g e fr,P.globalNamed name=some g∧gl g=some ((zs.map fun z=>Value.int k z).toArray,e,fr)
theorem P8.is {gl:Cq} {name:String} {k:IntKind} {zs:List Int} {h:Heap} {n:K4} {φ:B6} {w:World} (t:P8 P gl name k zs) (hgl:ρ.gl=gl) (g:Gam ρ B h n φ w):Lib.TabIs P w name k zs:=by
 obtain ⟨b,e,fr,h1,h2⟩:=t
 obtain ⟨_,h3⟩:=g.glob b _ e fr (by rw [hgl]; exact h2)
 unfold Lib.TabIs World.var?
 rw [h1,Option.bind_some,h3]
def Nh (w:World) (l:List Nat):Cq:=fun b=>if b∈l then (match w.heap[b]? with | some (.cells c e fr)=>some (c,e,fr) | _=>none) else none
theorem QF {P:Program} {fs:List Nat} {w:World} {l:List Nat}:VA (K9 P fs (Nh w l)) w:=fun b c e fr h=>by
 have h:Nh w l b=some (c,e,fr):=h
 unfold Nh at h
 split at h
 ·split at h
  ·rename_i c' e' fr' hw
   cases h
   refine ⟨?_,hw⟩
   rcases Nat.lt_or_ge b w.heap.size with hb | hb
   ·exact hb
   ·rw [Array.getElem?_eq_none hb] at hw; cases hw
  ·cases h
 ·cases h
theorem P8.of {w:World} {l:List Nat} {g:Nat} {name:String} {k:IntKind} {zs:List Int} (hg:P.globalNamed name=some g) (hl:g∈l) (h:Lib.TabIs P w name k zs):P8 P (Nh w l) name k zs:=by
 unfold Lib.TabIs World.var? at h
 rw [hg,Option.bind_some] at h
 split at h
 ·rename_i c e fr hw
  cases h
  refine ⟨g,e,fr,hg,?_⟩
  unfold Nh
  rw [if_pos hl,hw]
 ·cases h
def VZ (m:Nat):Nat->Nat:=@Nat.rec (fun _=>Nat->Nat) (fun _=>1) (fun _ ih u=>br (Nat.ble (Nat.succ u) 10) 1 (Nat.succ (ih (Nat.div u 10)))) m
theorem PJ:∀ (m u:Nat),u<10 ^ (m+1)->VZ m u=Lib.nDigits u
 | 0,u,h=>by rw [Lib.nDigits_small (by simpa using h)]; rfl
 | m+1,u,h=>by
  have e:VZ (m+1) u=br (Nat.ble (Nat.succ u) 10) 1 (Nat.succ (VZ m (u / 10))):=rfl
  rw [e]
  by_cases hu:u<10
  ·rw [Ap.2 (by omega),AQ,Lib.nDigits_small hu]
  ·rw [Bp (by omega),AO,Lib.nDigits_big hu,PJ m (u / 10) (by rw [Nat.pow_succ] at h; omega)]
theorem Ph {u:Nat} (h:u<18446744073709551616):Lib.nDigits u≤20:=by
 rw [←PJ 19 u (by omega)]
 have:∀ (m u:Nat),VZ m u≤m+1:=by
  intro m
  induction m with
  | zero=>intro u; exact Nat.le_refl _
  | succ m ih =>
   intro u
   have e:VZ (m+1) u=br (Nat.ble (Nat.succ u) 10) 1 (Nat.succ (VZ m (u / 10))):=rfl
   rw [e]
   cases Nat.ble (Nat.succ u) 10 with
   | true=>show 1≤_; omega
   | false=>have:=ih (u / 10); show Nat.succ _≤_; omega
 exact this 19 u
def I9:Im:=fun args h n =>
 Gc args fun x l=>Oz l (FP x fun k r=>br (Bj k .u64) (br (Nat.ble 1 r) (Ai (VZ 19 r) fun i=>.rv (.int .i64 i) h n) (.fail "")) (.fail ""))
def NG (P:Program) (f:FuncId):Prop:=∀ (u:Nat),1≤u->u<18446744073709551616->∀ w:World,Lib.TabIs P w "internal/strconv.uint64pow10" .u64 Lib.pow10Tab->Calls P f #[.int .u64 u] w fun e w'=>e = .returned (.int .i64 (Lib.nDigits u))∧w'=w
theorem M9 {f:FuncId} {fn:Func} {gl:Cq} (hf:P.funcs[f]? = some fn) (hb:fn.body.isSome=true) (hn:(fn.name == "runtime.NumGoroutine")=false) (hS:NG P f) (hgl:ρ.gl=gl) (ht:P8 P gl "internal/strconv.uint64pow10" .u64 Lib.pow10Tab):Hr P ρ B f I9:=by
 intro args h n v h1 n1 hx φ w xs g hr
 have hg:(I9 args h n).good:=by rw [hx]; trivial
 unfold I9 at hx hg
 obtain ⟨x,l,rfl,q1⟩:=Dz hg
 rw [q1] at hx hg
 obtain ⟨rfl,q2⟩:=Gq hg
 rw [q2] at hx
 obtain ⟨k,r,rfl,hx⟩:=Po hx
 obtain ⟨hk,hx⟩:=M6 hx
 obtain rfl:=Bg.1 hk
 obtain ⟨h1',hx⟩:=M6 hx
 have h1':=Ap.1 h1'
 rw [Ah] at hx
 cases hx
 obtain ⟨X,ys,hX,r0,hr⟩:=AE.1 hr
 obtain rfl:=AR.1 hr
 obtain ⟨hlt,rfl⟩:=BQ r0
 have hlt:r<18446744073709551616:=hlt
 have hxs:xs = #[.int .u64 (BF .u64 r)]:=by cases xs; simp at hX; rw [hX]
 subst hxs
 rw [show BF .u64 r=(r:Int) from AA (by simp only [Hk]; exact hlt)]
 obtain ⟨c,hc⟩:=Option.isSome_iff_exists.1 hb
 refine Dc hf hc hn ((hS r h1' hlt w (ht.is hgl g)).mono fun e w' ⟨he,hw⟩=>⟨_,he,?_⟩)
 subst hw
 refine ⟨φ,Fr.refl h φ n _,g,?_⟩
 rw [PJ 19 r (by omega)]
 have:=Ph hlt
 simp only [AG]
 generalize Lib.nDigits r=d at this
 exact ⟨by simp only [Mk]; omega,congrArg (Value.int .i64) (AA (k:=.i64) (by simp only [Hk]; omega)).symm⟩
end
theorem Je {P:Program} {w:World}:∀ {l:List (String×DataW Unit)} {ps:List MemPlace},DataW.LaidVars P w l ps->∀ {name:String} {d:DataW Unit},(name,d)∈l →
  ∃ g t cs fuel p,P.globalNamed name=some g∧(P.globals[g]?).map (·.type)=some t∧w.var? P name=some cs∧DataW.trod (fun _=>()) P w 0 (fun _=>true) false fuel t cs.toList=some (d,p)
 | [],_,_,_,_,hm=>by cases hm
 | (n,d)::r,ps,h,name,d',hm=>by
  obtain ⟨g,t,cs,fuel,p,q,h1,h2,h3,h4,h5,_⟩:=h
  rcases List.mem_cons.1 hm with e | e
  ·cases e; exact ⟨g,t,cs,fuel,p,h1,h2,h3,h4⟩
  ·exact Je h5 e
theorem Nu {P:Program} {W:World} {name:String} {k:IntKind} {zs:List Int} {l:List (String×DataW Unit)} {g:Nat} {t e:TypeId} {n:Nat}
  (hg:P.globalNamed name=some g) (hty:(P.globals[g]?).map (·.type)=some t) (ht:P.underlying t=some (.array n e)) (he:P.underlying e=some (.int k)) (hce:P.cellsOf e=1) (hct:P.cellsOf t=n)
  (hm:(name,Lib.tabData k zs)∈l) (h:laidMet P l W):Lib.TabIs P W name k zs:=by
 obtain ⟨ps,hv,_⟩:=h
 obtain ⟨g',t',cs,fuel,p,hg',ht',hvar,hd⟩:=Je hv hm
 obtain rfl:=Option.some.inj (hg.symm.trans hg')
 obtain rfl:=Option.some.inj (hty.symm.trans ht')
 unfold Lib.TabIs
 rw [hvar,←Lib.cells_of_tab ht he hce hct hd]
end Go.Ev

namespace Go.Ev
set_option linter.unusedVariables false
open Go.RowKit
def SF (x y:V):Bool :=
 @V.rec (fun _=>Bool) (fun _=>Unit) (fun k r=>@V.rec (fun _=>Bool) (fun _=>Unit) (fun j b=>br (Bj k j) (Nat.beq r b) false) (fun _=>false) (fun _ _=>false) (fun _ _ _ _ _ _=>false) (fun _ _=>false) (fun _ _=>false) (fun _=>false) (fun _=>false) (fun _ _ _=>false) (fun _ _=>false) (fun _=>false) () (fun _ _ _ _=>()) y)
  (fun p=>@V.rec (fun _=>Bool) (fun _=>Unit) (fun _ _=>false) (fun q=>br p q (br q false true)) (fun _ _=>false) (fun _ _ _ _ _ _=>false) (fun _ _=>false) (fun _ _=>false) (fun _=>false) (fun _=>false) (fun _ _ _=>false) (fun _ _=>false) (fun _=>false) () (fun _ _ _ _=>()) y)
  (fun _ _=>false) (fun _ _ _ _ _ _=>false)
  (fun n c=>@V.rec (fun _=>Bool) (fun _=>Unit) (fun _ _=>false) (fun _=>false) (fun _ _=>false) (fun _ _ _ _ _ _=>false) (fun m d=>br (Nat.beq n m) (Nat.beq c d) false) (fun _ _=>false) (fun _=>false) (fun _=>false) (fun _ _ _=>false) (fun _ _=>false) (fun _=>false) () (fun _ _ _ _=>()) y)
  (fun _ _=>false) (fun _=>false) (fun _=>false) (fun _ _ _=>false) (fun _ _=>false) (fun _=>false) () (fun _ _ _ _=>()) x
def OY (v:V):Prop:=∀ (ρ:Env) (φ φ':B6) x,AG ρ φ v x->AG ρ φ' v x
theorem OK {c x:Bool} (h:br c x false=true):c=true∧x=true:=by cases c; cases h; exact ⟨rfl,h⟩
theorem Qy {x y:V} (h:SF x y=true):x=y∧OY x:=by
 cases x with
 | int k r=>cases y with
  | int j b =>
   obtain ⟨h1,h2⟩:=OK (show br (Bj k j) (Nat.beq r b) false=true from h)
   rw [Bg.1 h1,Nat.eq_of_beq_eq_true h2]
   exact ⟨rfl,fun ρ φ φ' x hx=>by simpa only [AG] using hx⟩
  | _=>cases h
 | bool p=>cases y with
  | bool q =>
   have h:br p q (br q false true)=true:=h
   have:p=q:=by cases p <;> cases q <;> first | rfl | cases h
   rw [this]
   exact ⟨rfl,fun ρ φ φ' x hx=>by simpa only [AG] using hx⟩
  | _=>cases h
 | str n c=>cases y with
  | str m d =>
   obtain ⟨h1,h2⟩:=OK (show br (Nat.beq n m) (Nat.beq c d) false=true from h)
   rw [Nat.eq_of_beq_eq_true h1,Nat.eq_of_beq_eq_true h2]
   exact ⟨rfl,fun ρ φ φ' x hx=>by simpa only [AG] using hx⟩
  | _=>cases h
 | _=>cases h
def OL (l:List V):List V->Bool :=
 @List.rec V (fun _=>List V->Bool) (fun r=>@List.rec V (fun _=>Bool) true (fun _ _ _=>false) r) (fun x _ ih r=>@List.rec V (fun _=>Bool) false (fun y r _=>br (SF x y) (ih r) false) r) l
theorem O5:∀ {l r:List V},OL l r=true->l=r ∧ ∀ x∈l,OY x
 | [],[],_=>⟨rfl,fun x hx=>by cases hx⟩
 | [],_::_,h=>by cases h
 | _::_,[],h=>by cases h
 | x::l,y::r,h=>by
  obtain ⟨h1,h2⟩:=OK (show br (SF x y) (OL l r) false=true from h)
  obtain ⟨rfl,p⟩:=Qy h1
  obtain ⟨rfl,q⟩:=O5 h2
  exact ⟨rfl,fun z hz=>by
   rcases List.mem_cons.1 hz with rfl | hz
   ·exact p
   ·exact q z hz⟩
def ZG (v:V) (r:R):Bool:=@R.rec (fun _=>Bool) (fun _ _ _ _=>false) (fun u _ _=>SF u v) (fun _=>false) (fun _ _ _ _=>false) r
theorem Vb {v:V} {r:R} (h:ZG v r=true):(∃ h1 n1,r = .rv v h1 n1)∧OY v:=by
 cases r with
 | rv u h1 n1=>obtain ⟨rfl,p⟩:=Qy (show SF u v=true from h); exact ⟨⟨h1,n1,rfl⟩,p⟩
 | _=>cases h
abbrev Oj:=List (List V×V)
def Jh (l:Oj):Im :=
 @List.rec (List V×V) (fun _=>Im) (C2 "") (fun e _ ih args h n=>@Prod.rec (List V) V (fun _=>R) (fun a v=>br (OL args a) (.rv v h n) (ih args h n)) e) l
theorem ON:∀ {l:Oj} {args:List V} {h:Heap} {n:K4} {v:V} {h1:Heap} {n1:K4},Jh l args h n = .rv v h1 n1->h1=h∧n1=n∧(args,v)∈l ∧ ∀ x∈args,OY x
 | [],args,h,n,v,h1,n1,hx=>by cases hx
 | (a,u)::l,args,h,n,v,h1,n1,hx=>by
  have e0:Jh ((a,u)::l) args h n=br (OL args a) (R.rv u h n) (Jh l args h n):=rfl
  rw [e0] at hx
  clear e0
  cases hb:OL args a with
  | true =>
   rw [hb,AQ] at hx
   obtain ⟨e1,p⟩:=O5 hb
   cases hx
   exact ⟨rfl,rfl,by rw [e1]; exact List.mem_cons_self ..,p⟩
  | false =>
   rw [hb] at hx
   obtain ⟨h1,h2,h3,h4⟩:=ON (show Jh l args h n=_ from hx)
   exact ⟨h1,h2,List.mem_cons_of_mem _ h3,h4⟩
def Hp (T:FC) (m:Nat) (f:FuncId) (l:Oj):Prop:=∀ a v,(a,v)∈l->ZG v (EQ T m (BC f) a AT Pp)=true
theorem JN {T:FC} {m:Nat} {f:FuncId}:Hp T m f []:=fun a v h=>by cases h
theorem Ft {T:FC} {m:Nat} {f:FuncId} {a:List V} {v:V} {l:Oj} (h:ZG v (EQ T m (BC f) a AT Pp)=true) (k:Hp T m f l):Hp T m f ((a,v)::l):=fun a' v' h'=>by
 rcases List.mem_cons.1 h' with e | e
 ·cases e; exact h
 ·exact k a' v' e
section
variable {P:Program} {ρ:Env} {B:Nat}
theorem Gam.below {h:Heap} {n:K4} {φ:B6} {w w':World} (g:Gam ρ B h n φ w) (b:Below w.heap.size w w'):Gam ρ B h n φ w'∧Fr h h φ φ n n w w':=by
 obtain ⟨b1,b2,b3,b4,b5⟩:=b
 refine ⟨⟨Nat.le_trans g.base b4,g.dom,fun p b s t hp=>⟨(g.blk p b s t hp).1,Nat.lt_of_lt_of_le (g.blk p b s t hp).2 b4⟩,fun p o b s t ho hp=>Ca (b5 b (g.blk p b s t hp).2) (g.obj p o b s t ho hp),g.sep,g.sup,
  fun b c e fr hb=>⟨(g.glob b c e fr hb).1,by rw [b5 b (Nat.lt_of_lt_of_le (g.glob b c e fr hb).1 g.base)]; exact (g.glob b c e fr hb).2⟩⟩,
  ⟨B6.le_refl φ,fun _ _ h=>.inl h,Nat.le_refl _,b1,b2,b3,b4,fun b hb _=>b5 b hb,fun _ _ _ _ h=>.inl h,fun _ _ h=>h⟩⟩
theorem KW {φ φ':B6}:∀ {l:List V} {xs:List Value},(∀ x∈l,OY x)->Bu ρ φ l xs->Bu ρ φ' l xs
 | [],xs,_,h=>by rw [AR] at h ⊢; exact h
 | v::l,xs,p,h=>by
  rw [AE] at h ⊢
  obtain ⟨y,ys,e,h1,h2⟩:=h
  exact ⟨y,ys,e,p v (List.mem_cons_self ..) ρ φ φ' y h1,KW (fun x hx=>p x (List.mem_cons_of_mem _ hx)) h2⟩
theorem Nx (hρ:Bq ρ) (hm:P.follows .mixedOrders=true) {T:FC} (hT:∀ B,Hi P ρ B T) {m:Nat} {f:FuncId} {l:Oj} (hl:Hp T m f l):Hr P ρ B f (Jh l):=by
 intro args h n v h1 n1 hx φ w xs g hr
 obtain ⟨rfl,rfl,hmem,hp⟩:=ON hx
 obtain ⟨⟨h2,n2,hc⟩,hv⟩:=Vb (hl _ _ hmem)
 intro o a K Q hK
 refine Tc (B:=w.heap.size) hρ hm (hT _) m f args AT Pp _ h2 n2 hc (fun _=>none) w xs (LD w Pp fun b c e fr hb=>⟨Nat.lt_of_lt_of_le (g.glob b c e fr hb).1 g.base,(g.glob b c e fr hb).2⟩) (KW hp hr) o a K Q fun x w' ⟨φ',f1,_,hr1⟩=>hK x w' ?_
 obtain ⟨g2,f2⟩:=g.below (NQ f1)
 exact ⟨φ,f2,g2,hv ρ φ' φ x hr1⟩
end
theorem Vj {a:Int} (h:(Lit.int .i64 a).wf=true) : -9223372036854775808≤a∧a<9223372036854775808:=by
 simp [Lit.wf,IntKind.min,IntKind.max,IntKind.signed,IntKind.bits] at h
 omega
theorem VF {ρ:Env} {φ:B6} {a:Int} {m lo hi:Nat} (hm:m<18446744073709551616) (hlo:lo<18446744073709551616) (h : -9223372036854775808≤a) (h2:a<9223372036854775808) (h3:lo≤a.natAbs % m) (h4:a.natAbs % m≤hi) :
  AG ρ φ (.oth (.rs (36893488147419103232+m) (hi*18446744073709551616+lo))) (.int .i64 a):=by
 simp only [AG]
 have e:(36893488147419103232+m) % 18446744073709551616=m:=by omega
 refine ⟨a,rfl,h,h2,.inr ⟨by omega,?_,?_⟩,fun _ h=>absurd h (by omega),fun h=>absurd h (by omega)⟩
 ·rw [e]; omega
 ·rw [e]; omega
def Gf (r:R):Bool:=@R.rec (fun _=>Bool) (fun _ _ _ _=>false) (fun v _ _=>X5 v) (fun _=>false) (fun _ _ x y=>br x y false) r
theorem KM:∀ {r:R},Gf r=true->r.sat (fun x=>∃ h n,x = .rv (.bool true) h n)
 | .ok _ _ _ _,h=>by cases h
 | .fail _,h=>by cases h
 | .rv v h n,hx=>by
  cases v with
  | bool b=>have:b=true:=hx; subst this; exact ⟨h,n,rfl⟩
  | _=>cases hx
 | .both a b,hx=>by
  obtain ⟨h1,h2⟩:=OK (show br (Gf a) (Gf b) false=true from hx)
  exact ⟨KM h1,KM h2⟩
end Go.Ev

namespace Go.Ev
set_option linter.unusedVariables false
section
variable {P:Program} {ρ:Env} {B:Nat}
theorem R6 {w:World} {l:List Nat} {b:Nat} {c:Array Value} {e:TypeId} {fr:Nat×Nat} (hb:b∈l) (h:w.heap[b]? = some (.cells c e fr)):Nh w l b=some (c,e,fr):=by
 unfold Nh
 rw [if_pos hb,h]
theorem PR {w:World} {a:Addr} {v:Value} (h:w.cell? a=some v):∃ b o c e fr,a=⟨b,o,none⟩∧w.heap[b]? = some (.cells c e fr)∧c[o]? = some v:=by
 obtain ⟨b,o,sp⟩:=a
 unfold World.cell? at h
 split at h
 ·rename_i c e fr hw
  split at h
  ·cases h
  ·rename_i hs
   cases sp with
   | none=>exact ⟨b,o,c,e,fr,rfl,hw,h⟩
   | some x=>exact absurd rfl hs
 ·cases h
theorem Js {H:Type} {enc:TypeId×Value->H} {w:World} {base:Nat} {spare:Nat->Bool} {held:Bool} {fuel:Nat} {t e:TypeId} {cs:List Value} {x:DataW H×List MemPlace}
  (ht:P.underlying t=some (.slice e)) (he:P.underlying e=some .bool) (ce:P.cellsOf e=1) (h:DataW.trod enc P w base spare held fuel t cs=some x) :
  cs=[.slice none 0 0] ∨ ∃ a len cap,cs=[.slice (some a) len cap]∧len≤cap∧cap≤maxLen ∧
   (1≤len->∃ b o c e' fr,a=⟨b,o,none⟩∧w.heap[b]? = some (.cells c e' fr) ∧ ∀ j,j<len->∃ r,c[o+j]? = some (.bool r)):=by
 rcases Go.Deep.open_slice1 ht ce h with ⟨hc,_⟩ | ⟨a,len,cap,m,n,V,D,Pl,hc,_,hl,hm,hmm,_,hx⟩
 ·exact .inl hc
 ·refine .inr ⟨a,len,cap,hc,hl,hm,fun hpos=>?_⟩
  have hlm:len≤m:=by rw [hmm]; split <;> omega
  have key:∀ i,i<len->∃ z,w.cell? (a.add i)=some (.bool z):=fun i hi=>by
   obtain ⟨e1,e2⟩:=hx i (by omega)
   obtain ⟨z,ez,_⟩:=DataW.trod_bool he e2
   simp at ez
   exact ⟨z,by rw [e1,ez]⟩
  obtain ⟨z,hz⟩:=key 0 hpos
  have hz:w.cell? a=_:=hz
  obtain ⟨b,o,c,e',fr,ea,hw,hco⟩:=PR hz
  refine ⟨b,o,c,e',fr,ea,hw,fun j hj=>?_⟩
  obtain ⟨z,hz⟩:=key j hj
  rw [ea,Go.WideShapes.add_plain] at hz
  exact ⟨z,by simpa [World.cell?,hw] using hz⟩
end
section
variable {ρ:Env} {φ:B6} {b o len cap lo hi hi' i:Nat} {c:Array Value} {e:TypeId} {fr:Nat×Nat}
theorem SN (hg:ρ.gl b=some (c,e,fr)) (h:∀ j,j<len->∃ x,c[o+j]? = some (.bool x)) (h1:lo≤len) (h2:len≤hi) (h3:len≤cap) :
  AG ρ φ (.oth (.ro 0 lo hi 1)) (.slice (some ⟨b,o,none⟩) len cap):=by
 simp only [AG]
 refine ⟨b,o,len,cap,c,e,fr,rfl,h1,h2,h3,hg,fun j hj=>?_⟩
 obtain ⟨x,hc⟩:=h j (by omega)
 exact ⟨_,hc,.inl ⟨rfl,x,rfl⟩⟩
end
end Go.Ev

namespace Go.Ev
set_option linter.unusedVariables false
def UX (o:Ch) (κ0:R) (κ:K4->R):R :=
 @Option.rec Ob (fun _=>R) κ0 (fun o=>@Ob.rec (fun _=>R) (fun _ _ _=>κ0) (fun _ _ _=>κ0) (fun q _ _ _=>κ q) κ0 (fun _ _=>κ0) o) o
def Nc:Ch->Option K4
 | some (.it q _ _ _)=>some q
 | _=>none
theorem T0 (o:Ch) (κ0:R) (κ:K4->R):UX o κ0 κ=match Nc o with | some q=>κ q | none=>κ0:=by
 cases o with
 | none=>rfl
 | some o=>cases o <;> rfl
def Hc (m:Heap) (p:K4):Option K4:=Nc (AL p m)
def Nz (m:Heap) (p:K4) (κ0:R) (κ:K4->R):R:=Bk p m fun o=>UX o κ0 κ
theorem Hw {m:Heap} {p:K4} {κ0:R} {κ:K4->R}:Nz m p κ0 κ=match Hc m p with | some q=>κ q | none=>κ0:=by
 unfold Nz Hc
 rw [Bc,T0]
def UE:Ot->V
 | .yl _=>.oth .any
 | o=>.oth o
mutual
def ER (m:Heap):V->V
 | .int k r=>.int k r
 | .bool b=>.bool b
 | .ptr p off=>match Hc m p with | some q=>.ptr q off | none=>.oth .any
 | .sl p off len cap ex esz=>match Hc m p with | some q=>.sl q off len cap ex esz | none=>.oth .any
 | .str n c=>.str n c
 | .agg l=>.agg (IQ m l)
 | .nil w=>.nil w
 | .map p=>match Hc m p with | some q=>.map q | none=>.oth .any
 | .fn f l=>.fn f (IQ m l)
 | .tup l=>.tup (IQ m l)
 | .oth o=>UE o
def IQ (m:Heap):List V->List V
 | []=>[]
 | v::l=>ER m v::IQ m l
end
def Ue (o:Ot) (κ:V->R):R :=
 @Ot.rec (fun _=>R) (κ (.oth o)) (fun _=>κ (.oth o)) (fun _=>κ (.oth .any)) (κ (.oth o)) (fun _ _ _=>κ (.oth o)) (fun _ _=>κ (.oth o)) (κ (.oth o)) (fun _ _=>κ (.oth o)) (fun _ _ _ _=>κ (.oth o)) (fun _ _ _ _=>κ (.oth o)) (fun _ _ _=>κ (.oth o)) (fun _ _=>κ (.oth o)) o
theorem Ui (o:Ot) (κ:V->R):Ue o κ=κ (UE o):=by cases o <;> rfl
def Ny (m:Heap) (v:V):(V->R)->R :=
 @V.rec (fun _=>(V->R)->R) (fun _=>(List V->R)->R)
 (fun k r κ=>κ (.int k r)) (fun b κ=>κ (.bool b)) (fun p off κ=>Nz m p (κ (.oth .any)) fun q=>κ (.ptr q off)) (fun p off len cap ex esz κ=>Nz m p (κ (.oth .any)) fun q=>κ (.sl q off len cap ex esz)) (fun n c κ=>κ (.str n c)) (fun _ ih κ=>ih fun l=>κ (.agg l)) (fun w κ=>κ (.nil w)) (fun p κ=>Nz m p (κ (.oth .any)) fun q=>κ (.map q)) (fun f _ ih κ=>ih fun l=>κ (.fn f l)) (fun _ ih κ=>ih fun l=>κ (.tup l)) (fun o κ=>Ue o κ)
 (fun κ=>κ []) (fun _ _ ihx ihl κ=>ihx fun x=>ihl fun l=>κ (x::l)) v
def W3 (m:Heap) (l:List V):(List V->R)->R :=
 @V.rec_1 (fun _=>(V->R)->R) (fun _=>(List V->R)->R)
 (fun k r κ=>κ (.int k r)) (fun b κ=>κ (.bool b)) (fun p off κ=>Nz m p (κ (.oth .any)) fun q=>κ (.ptr q off)) (fun p off len cap ex esz κ=>Nz m p (κ (.oth .any)) fun q=>κ (.sl q off len cap ex esz)) (fun n c κ=>κ (.str n c)) (fun _ ih κ=>ih fun l=>κ (.agg l)) (fun w κ=>κ (.nil w)) (fun p κ=>Nz m p (κ (.oth .any)) fun q=>κ (.map q)) (fun f _ ih κ=>ih fun l=>κ (.fn f l)) (fun _ ih κ=>ih fun l=>κ (.tup l)) (fun o κ=>Ue o κ)
 (fun κ=>κ []) (fun _ _ ihx ihl κ=>ihx fun x=>ihl fun l=>κ (x::l)) l
mutual
theorem EB (m:Heap):∀ (v:V) (κ:V->R),Ny m v κ=κ (ER m v)
 | .int _ _,κ=>by simp only [ER]; rfl
 | .bool _,κ=>by simp only [ER]; rfl
 | .ptr p off,κ=>by
  show Nz m p _ _=_
  rw [Hw]; simp only [ER]
  cases Hc m p <;> rfl
 | .sl p _ _ _ _ _,κ=>by
  show Nz m p _ _=_
  rw [Hw]; simp only [ER]
  cases Hc m p <;> rfl
 | .str _ _,κ=>by simp only [ER]; rfl
 | .agg l,κ=>by
  show W3 m l (fun l=>κ (.agg l))=_
  rw [JL m l]; simp only [ER]
 | .nil _,κ=>by simp only [ER]; rfl
 | .map p,κ=>by
  show Nz m p _ _=_
  rw [Hw]; simp only [ER]
  cases Hc m p <;> rfl
 | .fn f l,κ=>by
  show W3 m l (fun l=>κ (.fn f l))=_
  rw [JL m l]; simp only [ER]
 | .tup l,κ=>by
  show W3 m l (fun l=>κ (.tup l))=_
  rw [JL m l]; simp only [ER]
 | .oth o,κ=>by
  show Ue o κ=_
  rw [Ui]; simp only [ER]
theorem JL (m:Heap):∀ (l:List V) (κ:List V->R),W3 m l κ=κ (IQ m l)
 | [],κ=>by simp only [IQ]; rfl
 | v::l,κ=>by
  show Ny m v (fun x=>W3 m l fun l=>κ (x::l))=_
  rw [EB m v,JL m l]; simp only [IQ]
end
theorem Oc (m:Heap):∀ l,IQ m l=l.map (ER m)
 | []=>by simp [IQ]
 | v::l=>by simp only [IQ,List.map_cons]; rw [Oc m l]
section
variable {ρ:Env} {φ φ':B6} {m:Heap}
mutual
theorem Ky (hφ:∀ p q x,Hc m p=some q->φ p=some x->φ' q=some x):∀ {v:V} {x:Value},AG ρ φ v x->AG ρ φ' (ER m v) x
 | .int _ _,_,r=>by simp only [ER]; simpa only [AG] using r
 | .bool _,_,r=>by simp only [ER]; simpa only [AG] using r
 | .ptr p _,_,r=>by
  simp only [ER]
  simp only [AG] at r
  obtain ⟨b,s,tot,hp,e⟩:=r
  cases hm:Hc m p with
  | none=>simp only [AG]
  | some q=>simp only [AG]; exact ⟨b,s,tot,hφ _ _ _ hm hp,e⟩
 | .sl p _ _ _ _ _,_,r=>by
  simp only [ER]
  simp only [AG] at r
  obtain ⟨b,s,tot,o,c,hp,e⟩:=r
  cases hm:Hc m p with
  | none=>simp only [AG]
  | some q=>simp only [AG]; exact ⟨b,s,tot,o,c,hφ _ _ _ hm hp,e⟩
 | .str _ _,_,r=>by simp only [ER]; simpa only [AG] using r
 | .agg l,_,r=>by
  simp only [ER]
  simp only [AG] at r ⊢
  obtain ⟨cs,e,hl,hh⟩:=r
  exact ⟨cs,e,JD hφ hl,hh⟩
 | .nil _,_,r=>by simp only [ER]; simpa only [AG] using r
 | .map p,_,r=>by
  simp only [ER]
  simp only [AG] at r
  obtain ⟨b,s,tot,hp,e⟩:=r
  cases hm:Hc m p with
  | none=>simp only [AG]
  | some q=>simp only [AG]; exact ⟨b,s,tot,hφ _ _ _ hm hp,e⟩
 | .fn _ l,_,r=>by
  simp only [ER]
  simp only [AG] at r ⊢
  obtain ⟨cs,e,hl⟩:=r
  exact ⟨cs,e,JD hφ hl⟩
 | .tup l,_,r=>by
  simp only [ER]
  simp only [AG] at r ⊢
  obtain ⟨cs,e,hl⟩:=r
  exact ⟨cs,e,JD hφ hl⟩
 | .oth o,_,r=>by
  simp only [ER]
  cases o <;> simp only [UE,AG] at r ⊢ <;> exact r
theorem JD (hφ:∀ p q x,Hc m p=some q->φ p=some x->φ' q=some x):∀ {l:List V} {xs:List Value},Bu ρ φ l xs->Bu ρ φ' (IQ m l) xs
 | [],_,r=>by simp only [IQ]; simpa only [Bu] using r
 | v::l,_,r=>by
  simp only [IQ]
  simp only [Bu] at r ⊢
  obtain ⟨y,ys,e,hy,hys⟩:=r
  exact ⟨y,ys,e,Ky hφ hy,JD hφ hys⟩
end
end
def Yd (m:Heap) (es:List (V×V)):(List (V×V)->R)->R :=
 @List.rec (V×V) (fun _=>(List (V×V)->R)->R) (fun κ=>κ []) (fun e _ ih κ=>@Prod.rec V V (fun _=>R) (fun x y=>Ny m x fun x=>Ny m y fun y=>ih fun l=>κ ((x,y)::l)) e) es
theorem TD (m:Heap):∀ (es:List (V×V)) (κ:List (V×V)->R),Yd m es κ=κ (es.map fun e=>(ER m e.1,ER m e.2))
 | [],κ=>rfl
 | (x,y)::es,κ=>by
  show Ny m x (fun x=>Ny m y fun y=>Yd m es fun l=>κ ((x,y)::l))=_
  rw [EB,EB,TD m es]; rfl
def OE (m:Heap) (o:Ob) (κ0:R) (κ:Ob->R):R :=
 @Ob.rec (fun _=>R) (fun cs _ _=>@Cs.rec (fun _=>R) (fun xs=>W3 m xs fun xs=>κ (.c (.l xs) false none)) (fun n c=>κ (.c (.b n c) false none)) cs) (fun es bs clk=>Yd m es fun es=>κ (.m es bs clk)) (fun _ _ _ _=>κ0) κ0 (fun _ _=>κ0) o
def PA (m:Heap):Ob->Option Ob
 | .c (.l xs) _ _=>some (.c (.l (xs.map (ER m))) false none)
 | .c (.b n c) _ _=>some (.c (.b n c) false none)
 | .m es bs clk=>some (.m (es.map fun e=>(ER m e.1,ER m e.2)) bs clk)
 | _=>none
theorem N5 (m:Heap) (o:Ob) (κ0:R) (κ:Ob->R):OE m o κ0 κ=match PA m o with | some o=>κ o | none=>κ0:=by
 cases o with
 | c cs sup prev =>
  cases cs with
  | l xs =>
   show W3 m xs _=_
   rw [JL,Oc]; rfl
  | b n c=>rfl
 | m es bs clk =>
  show Yd m es _=_
  rw [TD]; rfl
 | it _ _ _ _=>rfl
 | it0=>rfl
 | lp _ _=>rfl
section
variable {ρ:Env} {φ φ':B6} {m:Heap} {w:World}
theorem TP (hφ:∀ p q x,Hc m p=some q->φ p=some x->φ' q=some x) {es:List (V×V)}:∀ {l:List MapEntry},FW ρ φ es l->FW ρ φ' (es.map fun e=>(ER m e.1,ER m e.2)) l:=by
 induction es with
 | nil=>exact fun h=>h
 | cons e es ih=>rintro l ⟨y,ys,rfl,h1,h2,h3⟩; exact ⟨y,ys,rfl,Ky hφ h1,Ky hφ h2,ih h3⟩
theorem Uj (hφ:∀ p q x,Hc m p=some q->φ p=some x->φ' q=some x) {o o':Ob} {b s tot:Nat} (h:Fg ρ φ w o b s tot) (e:PA m o=some o'):Fg ρ φ' w o' b s tot:=by
 cases o with
 | c cs sup prev =>
  cases cs with
  | l xs =>
   cases e
   obtain ⟨c,e,fr,h1,h2,h3,h4,h5⟩:=h
   refine ⟨c,e,fr,h1,h2,by simpa [Cs.len] using h3,h4,fun i v hv=>?_⟩
   have hv:(xs.map (ER m))[i]? = some v:=hv
   rw [List.getElem?_map] at hv
   cases hx:xs[i]? with
   | none=>rw [hx] at hv; cases hv
   | some v0 =>
    rw [hx] at hv
    cases hv
    obtain ⟨x,k1,k2,k3⟩:=h5 i v0 hx
    exact ⟨x,k1,Ky hφ k2,k3⟩
  | b n c =>
   cases e
   obtain ⟨c',e,fr,h1,h2,h3,h4,h5⟩:=h
   refine ⟨c',e,fr,h1,h2,h3,h4,fun i v hv=>?_⟩
   obtain ⟨x,k1,k2,k3⟩:=h5 i v hv
   refine ⟨x,k1,?_,k3⟩
   have hv:(if i<n then some (V.int .u8 (c / 256 ^ i % 256)) else none)=some v:=hv
   split at hv
   ·cases hv; simpa only [AG] using k2
   ·cases hv
 | m es bs clk =>
  cases e
  obtain ⟨ents,h1,h2,h3⟩:=h
  exact ⟨ents,h1,TP hφ h2,h3⟩
 | it _ _ _ _=>cases e
 | it0=>cases e
 | lp _ _=>cases e
end
def KI (acc:List K4):Heap->K4->(Heap->K4->R)->R :=
 @List.rec K4 (fun _=>Heap->K4->(Heap->K4->R)->R) (fun m q κ=>κ m q) (fun p _ ih m q κ=>Bx p m (some (.it q 0 [] 0)) fun m=>q.nx fun q'=>ih m q' κ) acc
structure NumOK (m:Heap) (q:K4):Prop where
 lt:∀ p r,Hc m p=some r->r.toN<q.toN
 inj:∀ p p' r,Hc m p=some r->Hc m p'=some r->p=p'
theorem QS {Φ:R->Prop}:∀ {acc:List K4} {m:Heap} {q:K4} {κ:Heap->K4->R},NumOK m q->(KI acc m q κ).sat Φ->∃ m' q',NumOK m' q'∧(κ m' q').sat Φ
 | [],m,q,κ,ok,h=>⟨m,q,ok,h⟩
 | p::acc,m,q,κ,ok,h=>by
  have h:(Bx p m (some (.it q 0 [] 0)) fun m=>q.nx fun q'=>KI acc m q' κ).sat Φ:=h
  rw [BD,Bt] at h
  rcases K4.nx_eq q (fun q'=>KI acc (B5 p m (some (.it q 0 [] 0))) q' κ) with ⟨w,e⟩ | ⟨q',hq,e⟩
  ·rw [e] at h; exact h.elim
  rw [e] at h
  refine QS ⟨fun p' r hr=>?_,fun p1 p2 r h1 h2=>?_⟩ h
  ·unfold Hc at hr
   by_cases e:p=p'
   ·subst e; rw [AF] at hr; cases hr; omega
   ·rw [As _ _ e] at hr; have:=ok.lt p' r hr; omega
  ·unfold Hc at h1 h2
   by_cases e1:p=p1
   ·by_cases e2:p=p2
    ·rw [←e1,←e2]
    ·subst e1
     rw [AF] at h1
     rw [As _ _ e2] at h2
     cases h1
     have:=ok.lt p2 q h2; omega
   ·rw [As _ _ e1] at h1
    by_cases e2:p=p2
    ·subst e2
     rw [AF] at h2
     cases h2
     have:=ok.lt p1 q h1; omega
    ·rw [As _ _ e2] at h2
     exact ok.inj p1 p2 r h1 h2
def Ff (hs m:Heap) (acc:List K4):Heap->(Heap->R)->R :=
 @List.rec K4 (fun _=>Heap->(Heap->R)->R) (fun h κ=>κ h)
  (fun p _ ih h κ=>Bk p hs fun o=>@Option.rec Ob (fun _=>R) (ih h κ) (fun ob=>Nz m p (ih h κ) fun q=>OE m ob (ih h κ) fun ob=>Bx q h (some ob) fun h=>ih h κ) o) acc
def Ov (hs m h:Heap):Prop:=∀ q o',AL q h=some o'->∃ p o,Hc m p=some q∧AL p hs=some o∧PA m o=some o'
theorem HN {hs m:Heap}:∀ {acc:List K4} {h:Heap} {κ:Heap->R},Ov hs m h->∃ h',Ov hs m h'∧Ff hs m acc h κ=κ h'
 | [],h,κ,ok=>⟨h,ok,rfl⟩
 | p::acc,h,κ,ok=>by
  have e:Ff hs m (p::acc) h κ=Bk p hs fun o=>@Option.rec Ob (fun _=>R) (Ff hs m acc h κ) (fun ob=>Nz m p (Ff hs m acc h κ) fun q=>OE m ob (Ff hs m acc h κ) fun ob=>Bx q h (some ob) fun h=>Ff hs m acc h κ) o:=rfl
  rw [e,Bc]
  cases h1:AL p hs with
  | none=>exact HN ok
  | some ob =>
   show ∃ h',Ov hs m h'∧(Nz m p (Ff hs m acc h κ) fun q=>OE m ob (Ff hs m acc h κ) fun ob=>Bx q h (some ob) fun h=>Ff hs m acc h κ)=κ h'
   rw [Hw]
   cases h2:Hc m p with
   | none=>exact HN ok
   | some q =>
    show ∃ h',Ov hs m h'∧(OE m ob (Ff hs m acc h κ) fun ob=>Bx q h (some ob) fun h=>Ff hs m acc h κ)=κ h'
    rw [N5]
    cases h3:PA m ob with
    | none=>exact HN ok
    | some ob' =>
     show ∃ h',Ov hs m h'∧(Bx q h (some ob') fun h=>Ff hs m acc h κ)=κ h'
     rw [BD,Bt]
     refine HN fun q' o' hq=>?_
     rcases BA hq with ⟨rfl,e⟩ | ⟨hne,hq⟩
     ·cases e; exact ⟨p,ob,h2,h1,h3⟩
     ·exact ok q' o' hq
def TL (y a:V) (κ:V->R):R:=Al y (κ a) (κ (.oth .any))
def NO (y x:SQ) (κ:SQ->R):R :=
 @SQ.rec (fun _=>R) (fun y0 y1 y2 y3=>@SQ.rec (fun _=>R) (fun a b c d=>TL y0 a fun a=>TL y1 b fun b=>TL y2 c fun c=>TL y3 d fun d=>κ (.mk a b c d)) x) y
def Y8 (y x:S) (κ:S->R):R :=
 @S.rec (fun _=>R) (fun y0 y1 y2 y3 y4 y5 y6 y7=>@S.rec (fun _=>R) (fun a0 a1 a2 a3 a4 a5 a6 a7=>NO y0 a0 fun a0=>NO y1 a1 fun a1=>NO y2 a2 fun a2=>NO y3 a3 fun a3=>NO y4 a4 fun a4=>NO y5 a5 fun a5=>NO y6 a6 fun a6=>NO y7 a7 fun a7=>κ (.mk a0 a1 a2 a3 a4 a5 a6 a7)) x) y
def Dim (a b:V):Prop:=b=a∨b = .oth .any
theorem MT {y a:V} {κ:V->R} {Φ:R->Prop} (h:(TL y a κ).sat Φ):∃ b,Dim a b∧(κ b).sat Φ:=by
 unfold TL at h
 cases y with
 | bool q =>
  cases q with
  | true=>exact ⟨a,.inl rfl,h⟩
  | false=>exact ⟨_,.inr rfl,h⟩
 | oth o=>cases o with
  | bl=>exact ⟨a,.inl rfl,(show (R.both (κ a) (κ (.oth .any))).sat Φ from h).1⟩
  | _=>exact (show False from h).elim
 | _=>exact (show False from h).elim
def Aav (a b:SQ):Prop:=∀ d,Dim (SQ.sel d a) (SQ.sel d b)
theorem Gr {y x:SQ} {κ:SQ->R} {Φ:R->Prop} (h:(NO y x κ).sat Φ):∃ b,Aav x b∧(κ b).sat Φ:=by
 obtain ⟨y0,y1,y2,y3⟩:=y
 obtain ⟨a,b,c,d⟩:=x
 have h:(TL y0 a fun a=>TL y1 b fun b=>TL y2 c fun c=>TL y3 d fun d=>κ (.mk a b c d)).sat Φ:=h
 obtain ⟨a',ha,h⟩:=MT h
 obtain ⟨b',hb,h⟩:=MT h
 obtain ⟨c',hc,h⟩:=MT h
 obtain ⟨d',hd,h⟩:=MT h
 exact ⟨_,fun d=>by cases d <;> assumption,h⟩
def Zw (a b:S):Prop:=∀ s:SL,Dim (S.get s a) (S.get s b)
theorem Vd {y x:S} {κ:S->R} {Φ:R->Prop} (h:(Y8 y x κ).sat Φ):∃ b,Zw x b∧(κ b).sat Φ:=by
 obtain ⟨y0,y1,y2,y3,y4,y5,y6,y7⟩:=y
 obtain ⟨a0,a1,a2,a3,a4,a5,a6,a7⟩:=x
 have h:(NO y0 a0 fun a0=>NO y1 a1 fun a1=>NO y2 a2 fun a2=>NO y3 a3 fun a3=>NO y4 a4 fun a4=>NO y5 a5 fun a5=>NO y6 a6 fun a6=>NO y7 a7 fun a7=>κ (.mk a0 a1 a2 a3 a4 a5 a6 a7)).sat Φ:=h
 obtain ⟨b0,h0,h⟩:=Gr h
 obtain ⟨b1,h1,h⟩:=Gr h
 obtain ⟨b2,h2,h⟩:=Gr h
 obtain ⟨b3,h3,h⟩:=Gr h
 obtain ⟨b4,h4,h⟩:=Gr h
 obtain ⟨b5,h5,h⟩:=Gr h
 obtain ⟨b6,h6,h⟩:=Gr h
 obtain ⟨b7,h7,h⟩:=Gr h
 refine ⟨_,fun s=>?_,h⟩
 obtain ⟨a,b⟩:=s
 cases a
 ·exact h0 b
 ·exact h1 b
 ·exact h2 b
 ·exact h3 b
 ·exact h4 b
 ·exact h5 b
 ·exact h6 b
 ·exact h7 b
def DZ (m:Heap) (x:SQ) (κ:SQ->R):R :=
 @SQ.rec (fun _=>R) (fun a b c d=>Ny m a fun a=>Ny m b fun b=>Ny m c fun c=>Ny m d fun d=>κ (.mk a b c d)) x
def Vm (m:Heap) (x:S) (κ:S->R):R :=
 @S.rec (fun _=>R) (fun a0 a1 a2 a3 a4 a5 a6 a7=>DZ m a0 fun a0=>DZ m a1 fun a1=>DZ m a2 fun a2=>DZ m a3 fun a3=>DZ m a4 fun a4=>DZ m a5 fun a5=>DZ m a6 fun a6=>DZ m a7 fun a7=>κ (.mk a0 a1 a2 a3 a4 a5 a6 a7)) x
theorem GC {m:Heap} {x:SQ} {κ:SQ->R}:∃ y,(∀ d,SQ.sel d y=ER m (SQ.sel d x))∧DZ m x κ=κ y:=by
 obtain ⟨a,b,c,d⟩:=x
 refine ⟨.mk (ER m a) (ER m b) (ER m c) (ER m d),fun d=>by cases d <;> rfl,?_⟩
 show (Ny m a fun a=>Ny m b fun b=>Ny m c fun c=>Ny m d fun d=>κ (.mk a b c d))=_
 rw [EB,EB,EB,EB]
theorem VC {m:Heap} {x:S} {κ:S->R}:∃ y,(∀ s:SL,S.get s y=ER m (S.get s x))∧Vm m x κ=κ y:=by
 obtain ⟨a0,a1,a2,a3,a4,a5,a6,a7⟩:=x
 have e:Vm m (.mk a0 a1 a2 a3 a4 a5 a6 a7) κ=DZ m a0 fun a0=>DZ m a1 fun a1=>DZ m a2 fun a2=>DZ m a3 fun a3=>DZ m a4 fun a4=>DZ m a5 fun a5=>DZ m a6 fun a6=>DZ m a7 fun a7=>κ (.mk a0 a1 a2 a3 a4 a5 a6 a7):=rfl
 rw [e]
 obtain ⟨y0,h0,e⟩:=GC (m:=m) (x:=a0) (κ:=fun a0=>DZ m a1 fun a1=>DZ m a2 fun a2=>DZ m a3 fun a3=>DZ m a4 fun a4=>DZ m a5 fun a5=>DZ m a6 fun a6=>DZ m a7 fun a7=>κ (.mk a0 a1 a2 a3 a4 a5 a6 a7))
 rw [e]
 obtain ⟨y1,h1,e⟩:=GC (m:=m) (x:=a1) (κ:=fun a1=>DZ m a2 fun a2=>DZ m a3 fun a3=>DZ m a4 fun a4=>DZ m a5 fun a5=>DZ m a6 fun a6=>DZ m a7 fun a7=>κ (.mk y0 a1 a2 a3 a4 a5 a6 a7))
 rw [e]
 obtain ⟨y2,h2,e⟩:=GC (m:=m) (x:=a2) (κ:=fun a2=>DZ m a3 fun a3=>DZ m a4 fun a4=>DZ m a5 fun a5=>DZ m a6 fun a6=>DZ m a7 fun a7=>κ (.mk y0 y1 a2 a3 a4 a5 a6 a7))
 rw [e]
 obtain ⟨y3,h3,e⟩:=GC (m:=m) (x:=a3) (κ:=fun a3=>DZ m a4 fun a4=>DZ m a5 fun a5=>DZ m a6 fun a6=>DZ m a7 fun a7=>κ (.mk y0 y1 y2 a3 a4 a5 a6 a7))
 rw [e]
 obtain ⟨y4,h4,e⟩:=GC (m:=m) (x:=a4) (κ:=fun a4=>DZ m a5 fun a5=>DZ m a6 fun a6=>DZ m a7 fun a7=>κ (.mk y0 y1 y2 y3 a4 a5 a6 a7))
 rw [e]
 obtain ⟨y5,h5,e⟩:=GC (m:=m) (x:=a5) (κ:=fun a5=>DZ m a6 fun a6=>DZ m a7 fun a7=>κ (.mk y0 y1 y2 y3 y4 a5 a6 a7))
 rw [e]
 obtain ⟨y6,h6,e⟩:=GC (m:=m) (x:=a6) (κ:=fun a6=>DZ m a7 fun a7=>κ (.mk y0 y1 y2 y3 y4 y5 a6 a7))
 rw [e]
 obtain ⟨y7,h7,e⟩:=GC (m:=m) (x:=a7) (κ:=fun a7=>κ (.mk y0 y1 y2 y3 y4 y5 y6 a7))
 rw [e]
 refine ⟨_,fun s=>?_,rfl⟩
 obtain ⟨a,b⟩:=s
 cases a
 ·exact h0 b
 ·exact h1 b
 ·exact h2 b
 ·exact h3 b
 ·exact h4 b
 ·exact h5 b
 ·exact h6 b
 ·exact h7 b
def UN (x:SQ) (l:List V):List V:=@SQ.rec (fun _=>List V) (fun a b c d=>a::b::c::d::l) x
def Zq (x:S):List V:=@S.rec (fun _=>List V) (fun a0 a1 a2 a3 a4 a5 a6 a7=>UN a0 (UN a1 (UN a2 (UN a3 (UN a4 (UN a5 (UN a6 (UN a7 [])))))))) x
def Th (k:Nat) (y t:S) (h:Heap) (κ:S->Heap->K4->R):R :=
 Y8 y t fun t=>Cl h k (Rw (Zq t) []) AT [] fun hs acc=>KI acc AT Pp fun m n=>Ff hs m acc AT fun h'=>Vm m t fun t=>κ t h' n
theorem Uk {ρ:Env} {B:Nat} {h hs:Heap} {acc:List K4} {n:K4} {φ:B6} {w:World} (sub:Sub h hs acc) (g:Gam ρ B h n φ w):Gam ρ B hs n φ w:=by
 have no:∀ (ob:Ob),Ec ob=true->Ip ob=true->False:=fun ob h1 h2=>by
  cases ob with
  | c cs sup prev =>
   cases sup with
   | true=>cases h1
   | false=>cases h2
  | _=>cases h2
 refine ⟨g.base,g.dom,g.blk,fun p o b s tot hp hx=>?_,fun p q o o' b s tot s' tot' hne hp hq hx hy=>?_,fun p q o o' b s tot s' tot' hp hpr hq hx hy=>?_,g.glob⟩
 ·obtain ⟨o0,e0,rfl,_⟩:=sub.sub p o hp
  exact R0 (g.obj p o0 b s tot e0 hx)
 ·exfalso
  obtain ⟨o0,e0,_,g0,_⟩:=sub.sub p o hp
  obtain ⟨o1,e1,_,g1,_⟩:=sub.sub q o' hq
  rcases g.sep p q o0 o1 b s tot s' tot' hne e0 e1 hx hy with hh | hh
  ·exact no o1 g1 (g.sup p q o0 o1 b s tot s' tot' e0 hh e1 hx hy)
  ·exact no o0 g0 (g.sup q p o1 o0 b s' tot' s tot e1 hh e0 hy hx)
 ·obtain ⟨o0,e0,rfl,_⟩:=sub.sub p o hp
  rw [GZ] at hpr; cases hpr
theorem VU {k:Nat} {y t:S} {h:Heap} {κ:S->Heap->K4->R} {Φ:R->Prop} (hs:(Th k y t h κ).sat Φ):∃ t2 h2 n2,(κ t2 h2 n2).sat Φ ∧
  ∀ (ρ:Env) (B:Nat) (n:K4) (φ:B6) (w:World),Gam ρ B h n φ w->∃ φ2,Gam ρ B h2 n2 φ2 w ∧ ∀ (s:SL) (x:Value),AG ρ φ (S.get s t) x->AG ρ φ2 (S.get s t2) x:=by
 unfold Th at hs
 obtain ⟨t1,hd,hs⟩:=Vd hs
 obtain ⟨hh,acc,sub,e1⟩:=Er k (todo:=Rw (Zq t1) []) (κ:=fun hs acc=>KI acc AT Pp fun m n=>Ff hs m acc AT fun h'=>Vm m t1 fun t=>κ t h' n) (Sub.nil (h:=h))
 rw [e1] at hs
 obtain ⟨m,q,num,hs⟩:=QS (q:=Pp) ⟨fun p r hr=>by simp [Hc,Cv,Nc] at hr,fun p p' r hr=>by simp [Hc,Cv,Nc] at hr⟩ hs
 obtain ⟨h',bld,e2⟩:=HN (hs:=hh) (m:=m) (acc:=acc) (h:=AT) (κ:=fun h'=>Vm m t1 fun t=>κ t h' q) (fun q o hq=>by rw [Cv] at hq; cases hq)
 rw [e2] at hs
 obtain ⟨t2,ht2,e3⟩:=VC (m:=m) (x:=t1) (κ:=fun t=>κ t h' q)
 rw [e3] at hs
 refine ⟨t2,h',q,hs,fun ρ B n φ w g=>?_⟩
 have g1:=Uk sub g
 classical
 let φ2:B6:=fun q=>if hq:∃ p,Hc m p=some q then φ hq.choose else none
 have hφ:∀ p q x,Hc m p=some q->φ p=some x->φ2 q=some x:=fun p q x hm hp=>by
  have hq:∃ p,Hc m p=some q:=⟨p,hm⟩
  show (if hq:∃ p,Hc m p=some q then φ hq.choose else none)=_
  rw [dif_pos hq,num.inj _ _ _ hq.choose_spec hm]; exact hp
 have hinv:∀ q x,φ2 q=some x->∃ p,Hc m p=some q∧φ p=some x:=fun q x hx=>by
  have hx:(if hq:∃ p,Hc m p=some q then φ hq.choose else none)=some x:=hx
  split at hx
  ·rename_i hq; exact ⟨_,hq.choose_spec,hx⟩
  ·cases hx
 have hat:∀ q o' x,AL q h'=some o'->φ2 q=some x->∃ p o,Hc m p=some q∧φ p=some x∧AL p hh=some o∧PA m o=some o':=fun q o' x hq hx=>by
  obtain ⟨p,o,h1,h2,h3⟩:=bld q o' hq
  obtain ⟨p',h1',hp'⟩:=hinv q x hx
  obtain rfl:=num.inj _ _ _ h1 h1'
  exact ⟨p,o,h1,hp',h2,h3⟩
 have hpv:∀ o o':Ob,PA m o=some o'->BP o'=none:=fun o o' e=>by
  cases o with
  | c cs _ _=>cases cs <;> (cases e; rfl)
  | m _ _ _=>cases e; rfl
  | it _ _ _ _=>cases e
  | it0=>cases e
  | lp _ _=>cases e
 refine ⟨φ2,⟨g1.base,fun q x hx=>?_,fun q b s tot hx=>?_,fun q o b s tot hq hx=>?_,fun q q' o o' b s tot s' tot' hne hq hq' hx hy=>?_,fun q q' o o' b s tot s' tot' hq hpr _ _ _=>?_,g1.glob⟩,fun s x hr=>?_⟩
 ·obtain ⟨p,h1,_⟩:=hinv q x hx
  exact num.lt p q h1
 ·obtain ⟨p,_,h2⟩:=hinv q _ hx
  exact g1.blk p b s tot h2
 ·obtain ⟨p,o0,_,h2,h3,h4⟩:=hat q o _ hq hx
  exact Uj hφ (g1.obj p o0 b s tot h3 h2) h4
 ·exfalso
  obtain ⟨p,o0,a1,a2,a3,a4⟩:=hat q o _ hq hx
  obtain ⟨p',o1,b1,b2,b3,b4⟩:=hat q' o' _ hq' hy
  have hpp:p≠p':=fun e=>by subst e; rw [a1] at b1; exact hne (Option.some.inj b1)
  obtain ⟨c0,k0,rfl,_⟩:=sub.sub p o0 a3
  obtain ⟨c1,k1,rfl,_⟩:=sub.sub p' o1 b3
  rcases g1.sep p p' _ _ b s tot s' tot' hpp a3 b3 a2 b2 with hh | hh
  ·rw [GZ] at hh; cases hh
  ·rw [GZ] at hh; cases hh
 ·obtain ⟨p,o0,_,_,hb⟩:=bld q o hq
  rw [hpv o0 o hb] at hpr; cases hpr
 ·rw [ht2]
  rcases hd s with e | e
  ·rw [e]; exact Ky hφ hr
  ·rw [e]
   have:ER m (.oth .any) = .oth .any:=by simp only [ER,UE]
   rw [this]; simp only [AG]
end Go.Ev
