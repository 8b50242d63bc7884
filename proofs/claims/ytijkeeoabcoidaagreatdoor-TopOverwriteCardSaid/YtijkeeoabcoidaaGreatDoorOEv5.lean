/- AN EVALUATOR OF THE MODEL OF Go, PROVED SOUND, PART 5: what it says of a call holds in every world, on every tape. Conditions: none of its own; each theorem bears its premises. -/
import Derived.Test.YtijkeeoabcoidaaGreatDoorOEv4
noncomputable section
set_option linter.unusedSimpArgs false
set_option linter.unusedVariables false
namespace Go.Ev
set_option linter.unusedVariables false
abbrev Ha:=S->Heap->K4->(S->Heap->K4->R)->R
abbrev VY:Ha:=fun t h n κ=>κ t h n
abbrev RU (k:Nat) (y:S):Ha:=fun t h _ κ=>Th k y t h κ
abbrev SA (c:Ha) (z b:Nat):Ha:=@Bool.rec (fun _=>Ha) VY c (Nat.beq b z)
def Wg (can:Ha) (body:S->Heap->K4->R) (k:Nat):S->Heap->K4->R :=
 @Nat.rec (fun _=>S->Heap->K4->R) (C2 "") (fun _ ih t h n=>can t h n fun t h n=>AB (body t h n) ih) k
def Ti (can:Ha) (body:S->Heap->K4->R):S->Heap->K4->R:=Wg can body 1000000000
abbrev Kx (c:AC):Nat:=@AC.rec (fun _=>Nat) 0 (fun _ _ x y=>Nat.add x y) (fun _=>0) (fun _ _=>0) (fun _ _ _ x y=>Nat.succ (Nat.add x y)) (fun _ _ x=>Nat.succ x) (fun _ x=>Nat.succ x) (fun _=>1) 1 (fun _=>0) (fun _ _ _ _=>1) c
abbrev H8 (can:Nat->Ha) (sm:SM) (cf:FZ) (c:AC):I3->I3 :=
 @AC.rec (fun _=>I3->I3) (fun rest=>rest) (fun _ _ a b rest=>a (b rest)) (fun l rest env t h n=>CP sm cf l env t h n rest)
  (fun al l rest env t h n=>Q1 al n fun b n=>Di sm cf b l env t h h n fun env t _ h n=>rest env t h n)
  (fun c x y a b rest env t h n=>Bm sm env t c fun v=>LY x.ends y.ends v a b rest env t h n)
  (fun id _ b rest env t h n=>Ad id (b r0 env t h n) fun t h n=>rest [] t h n)
  (fun c b _ _ t h n=>Ti (can (Kx c)) (fun t h n=>b r0 [] t h n) t h n) (fun id _ _ t h n=>.ok (.exit id) t h n) (fun _ _ t h n=>.ok .ret t h n) (Dt "")
  (fun pre sp d post rest env t h n=>CP sm cf pre env t h n fun env t h n=>UO cf sp (Bm sm env t) h n fun v h n=>CZ sm d t v fun t=>CP sm cf post (BL d v env) t h n rest) c
abbrev Wx (can:Nat->Ha) (sm:SM) (a:AFn):Ent:=@AFn.rec (fun _=>Ent) (fun ps c rs=>.code (fun l κ=>J1 ps l Gs fun t=>κ (Ul sm t)) (fun cf t h n=>H8 can sm cf c r0 [] t h n) (fun t h n=>I1 sm rs t h n)) a
abbrev UP (can:Nat->Ha) (sm:SM) (o:Option AFn):D7:=@Option.rec AFn (fun _=>D7) none (fun a=>some (Wx can sm a)) o
def Ku (can:Nat->Ha) (P:Program) (f:FuncId) (e:Ent):Prop:=∃ sm:SM,UP can sm (G2 P f)=some e∧Ya sm (G2 P f)=true
theorem Ku.mk {can:Nat->Ha} {P:Program} {f:FuncId} {e:Ent} (sm:SM) (h:UP can sm (G2 P f)=some e) (k:Ya sm (G2 P f)=true):Ku can P f e:=⟨sm,h,k⟩
def EV (can:Ha):Prop:=∀ {t:S} {h:Heap} {n:K4} {κ:S->Heap->K4->R} {Φ:R->Prop},(can t h n κ).sat Φ->∀ (ρ:Env) (B:Nat) (φ:B6) (w:World) (A:SL->Value->Prop),
  (∀ s x y,A s x->A s y->x=y)->Gam ρ B h n φ w->(∀ s x,A s x->AG ρ φ (S.get s t) x)->∃ t2 h2 n2 φ2,(κ t2 h2 n2).sat Φ∧Gam ρ B h2 n2 φ2 w ∧ ∀ s x,A s x->AG ρ φ2 (S.get s t2) x
theorem Uy (k:Nat) (y:S):EV (RU k y):=fun {t h n κ Φ} hs ρ B φ w A _ g hA=>by
 obtain ⟨t2,h2,n2,a,b⟩:=VU (κ:=κ) (Φ:=Φ) hs
 obtain ⟨φ2,g2,r2⟩:=b ρ B n φ w g
 exact ⟨t2,h2,n2,φ2,a,g2,fun s x hx=>r2 s x (hA s x hx)⟩
theorem TW:EV VY:=fun {t h n κ Φ} hs ρ B φ w A _ g hA=>⟨t,h,n,φ,hs,g,hA⟩
theorem RW {c:Ha} (hc:EV c) (z b:Nat):EV (SA c z b):=by
 show EV (@Bool.rec (fun _=>Ha) VY c (Nat.beq b z))
 cases Nat.beq b z with
 | false=>exact TW
 | true=>exact hc
def Nk (sm:SM) (t:S):Regs:=sm.foldr (fun x r=>DH x.1 r (S.get x.2 t)) (Regs.all (VP.all (.oth .any)))
theorem Gh {p:K2} {t:S}:∀ {sm:SM},Bi p (Nk sm t)=match BJ p sm with | some s=>S.get s t | none=>.oth .any
 | []=>by simp only [Nk,List.foldr_nil,Bi,Regs.sel_all,VP.sel_all,BJ]
 | x::l=>by
  show Bi p (DH x.1 (Nk l t) (S.get x.2 t))=_
  simp only [BJ]
  cases hb:K2.beq x.1 p with
  | true =>
   rw [K2.beq_iff.1 hb,Be]; rfl
  | false =>
   rw [Bv _ _ (fun e=>by rw [K2.beq_iff.2 e] at hb; cases hb),Gh]; rfl
section
variable {P:Program} {ρ:Env} {B N:Nat} {cf:CF} {cf2:FZ} {sm:SM} {can:Nat->Ha}
theorem NX {h h1:Heap} {φ φ':B6} {n n1:K4} {w w':World} (g:Gam ρ B h n φ w) (f:Fr h h1 φ φ' n n1 w w'):Go.RowKit.Below B w w' :=
 ⟨f.os,f.tape,f.out,f.size,fun k hk=>f.old k (Nat.lt_of_lt_of_le hk g.base) fun p s t hp=>absurd (g.blk p k s t hp).1 (by omega)⟩
def Lu:AC->Bool
 | .ops _=>true
 | .drawn _ _=>true
 | .spl _ _ _ _=>true
 | .bad _=>true
 | _=>false
theorem RA:∀ {a:AC},Lu a=true->H8 can sm cf2 a=Gz sm cf2 a:=fun {a} h=>by
 cases a <;> first | rfl | cases h
def QE (P:Program) (ρ:Env) (B N:Nat) (sm:SM) (C:Code) (t:Regs) (h:Heap) (n:K4) (Φ:R->Prop):Prop :=
 ∀ φ a w,TR ρ N φ t a->Gam ρ B h n φ w->∀ (Q:Exit->Act->World->Prop),
  (∀ e t1 h1 n1,Φ (.ok e t1 h1 n1)->∀ φ' a' w' tf,Go.RowKit.Below B w w'->Gam ρ B h1 n1 φ' w'->TR ρ N φ' tf a'->(∀ p s,BJ p sm=some s->S.get s t1=Bi p tf)->Q (IE e) a' w')->C.wp P Q a w
def Q7 (P:Program) (ρ:Env) (B N:Nat) (sm:SM) (can:Nat->Ha) (cf2:FZ) (C:Code):Prop :=
 ∀ (rest:I3) (rOk:List K2->Bool) (dom:List K2) (env:Ren) (t:Regs) (t':S) (h:Heap) (n:K4) (Φ:R->Prop),
  F0 sm (AM P N C) rOk dom=true->RI sm dom env t t'->(H8 can sm cf2 (AM P N C) rest env t' h n).sat Φ →
  ∀ φ a w,TR ρ N φ t a->Gam ρ B h n φ w->∀ (Q:Exit->Act->World->Prop),
   (∀ e t1 h1 n1,Φ (.ok e t1 h1 n1)->e ≠ .nrm->∀ φ' a' w' tf,Go.RowKit.Below B w w'->Gam ρ B h1 n1 φ' w'->TR ρ N φ' tf a'->(∀ p s,BJ p sm=some s->S.get s t1=Bi p tf)->Q (IE e) a' w') →
   ((AM P N C).ends=false->∀ dom2 env2 t2 t2' h2 n2,rOk dom2=true->RI sm dom2 env2 t2 t2'->(rest env2 t2' h2 n2).sat Φ->∀ φ2 a2 w2,Go.RowKit.Below B w w2->Gam ρ B h2 n2 φ2 w2->TR ρ N φ2 t2 a2->Q .normal a2 w2) →
   C.wp P Q a w
theorem Q7.join {C:Code} (H:Q7 P ρ B N sm can cf2 C) {dom:List K2} {env:Ren} {t:Regs} {t':S} {h:Heap} {n:K4} {Φ:R->Prop} (hok:F0 sm (AM P N C) (fun _=>true) dom=true) (ri:RI sm dom env t t')
  (hx:(H8 can sm cf2 (AM P N C) r0 env t' h n).sat Φ):QE P ρ B N sm C t h n Φ:=by
 intro φ a w hT g Q hQ
 refine H r0 _ dom env t t' h n Φ hok ri hx φ a w hT g Q (fun e t1 h1 n1 hΦ _ φ' a' w' tf f1 g1 T1 hk=>hQ e t1 h1 n1 hΦ φ' a' w' tf f1 g1 T1 hk) fun _ dom2 env2 t2 t2' h2 n2 _ ri2 hr φ2 a2 w2 f2 g2 T2=>?_
 have hr:Φ (R.ok .nrm t2' h2 n2):=hr
 exact hQ _ _ _ _ hr φ2 a2 w2 t2 f2 g2 T2 ri2.keep
theorem Ig {ops:Array Oper} {d:Bool}:Lu (C1 P N ops d)=true:=by
 unfold C1
 cases Gi P N ops ops.toList with
 | none=>rfl
 | some os =>
  cases d with
  | false=>rfl
  | true =>
   show Lu (if (BZ (ops.toList.map Co) os).ok then AC.drawn ((BZ (ops.toList.map Co) os).sk.any SI.isAl) ((BZ (ops.toList.map Co) os).sk.map (JJ os)) else .bad "a region of it order")=true
   split <;> rfl
theorem NH {id:Nat} {ops:Array Oper} {draw:Bool}:Lu (AM P N (.region id ops draw))=true:=by
 show Lu (MR P N ops draw)=true
 unfold MR
 cases draw with
 | true=>exact Ig
 | false =>
  show Lu (match Lf P N ops ops.toList with | some r=>.spl r.1 r.2.1 r.2.2.1 r.2.2.2 | none=>C1 P N ops false)=true
  cases Lf P N ops ops.toList with
  | none=>exact Ig
  | some r=>rfl
theorem Uu (hcan:∀ b,EV (can b)) (hρ:Bq ρ) (hm:P.follows .mixedOrders=true) (hct:Gn P ρ B cf) (hR:FJ P ρ B cf) (h2:∀ f,cf2 (BC f)=cf f):∀ C:Code,Q7 P ρ B N sm can cf2 C:=by
 have hcf:=hct.ok
 intro C
 induction C with
 | skip=>intro rest rOk dom env t t' h n Φ hok ri hx φ a w hT g Q hex hre; exact wp_skip (hre rfl dom env t t' h n hok ri hx φ a w (Go.RowKit.Below.refl _ w) g hT)
 | label l=>intro rest rOk dom env t t' h n Φ hok ri hx φ a w hT g Q hex hre; exact wp_label (hre rfl dom env t t' h n hok ri hx φ a w (Go.RowKit.Below.refl _ w) g hT)
 | exit id =>
  intro rest rOk dom env t t' h n Φ hok ri hx φ a w hT g Q hex hre
  exact wp_exit (hex _ _ _ _ hx (fun h=>by cases h) φ a w t (Go.RowKit.Below.refl _ w) g hT ri.keep)
 | ret =>
  intro rest rOk dom env t t' h n Φ hok ri hx φ a w hT g Q hex hre
  exact wp_ret (hex _ _ _ _ hx (fun h=>by cases h) φ a w t (Go.RowKit.Below.refl _ w) g hT ri.keep)
 | region id ops draw =>
  intro rest rOk dom env t t' h n Φ hok ri hx φ a w hT g Q hex hre
  rw [RA NH] at hx
  exact SX (sm:=sm) hρ hm hct hR h2 (.region id ops draw) rest rOk dom env t t' h n Φ hok ri hx φ a w hT g Q
   (fun e t1 h1 n1 hΦ hne φ' a' w' tf f1 g1 T1 hk=>hex e t1 h1 n1 hΦ hne φ' a' w' tf (NX g f1) g1 T1 hk)
   fun he dom2 env2 t2 t2' h2 n2 hok2 ri2 hr φ2 a2 w2 f2 g2 T2=>hre he dom2 env2 t2 t2' h2 n2 hok2 ri2 hr φ2 a2 w2 (NX g f2) g2 T2
 | seq x y ihx ihy =>
  intro rest rOk dom env t t' h n Φ hok ri hx φ a w hT g Q hex hre
  have hok:F0 sm (AM P N x) (F0 sm (AM P N y) rOk) dom=true:=hok
  have hx:(H8 can sm cf2 (AM P N x) (H8 can sm cf2 (AM P N y) rest) env t' h n).sat Φ:=hx
  have hre:or (AM P N x).ends (AM P N y).ends=false->_:=hre
  refine wp_seq (ihx _ _ dom env t t' h n Φ hok ri hx φ a w hT g _ (fun e t1 h1 n1 hΦ hne φ' a' w' tf f1 g1 T1 hk=>?_) fun he dom2 env2 t2 t2' h2' n2 hok2 ri2 hr φ2 a2 w2 f2 g2 T2=>?_)
  ·have:=hex e t1 h1 n1 hΦ hne φ' a' w' tf f1 g1 T1 hk
   cases e with
   | nrm=>exact absurd rfl hne
   | exit id=>exact this
   | ret=>exact this
  ·exact ihy rest rOk dom2 env2 t2 t2' h2' n2 Φ hok2 ri2 hr φ2 a2 w2 T2 g2 Q (fun e t1 h1 n1 hΦ hne φ' a' w' tf f1 g1 T1 hk=>hex e t1 h1 n1 hΦ hne φ' a' w' tf (Go.RowKit.Below.trans f2 f1) g1 T1 hk)
    fun he' dom3 env3 t3 t3' h3 n3 hok3 ri3 hr3 φ3 a3 w3 f3 g3 T3=>hre (by rw [he,he']; rfl) dom3 env3 t3 t3' h3 n3 hok3 ri3 hr3 φ3 a3 w3 (Go.RowKit.Below.trans f2 f3) g3 T3
 | cond c x y ihx ihy =>
  intro rest rOk dom env t t' h n Φ hok ri hx φ a w hT g Q hex hre
  have hok:F0 sm (match AY N c with | some c=>.cond c (AM P N x) (AM P N y) | none=>.bad "a test") rOk dom=true:=hok
  have hx:(H8 can sm cf2 (match AY N c with | some c=>.cond c (AM P N x) (AM P N y) | none=>.bad "a test") rest env t' h n).sat Φ:=hx
  have hre:AC.ends (match AY N c with | some c=>.cond c (AM P N x) (AM P N y) | none=>.bad "a test")=false->_:=hre
  split at hx
  ·rename_i c' hc
   simp only [hc] at hok hre
   have hre:and (AM P N x).ends (AM P N y).ends=false->_:=hre
   have hok:(DS sm dom c'&&br (AM P N x).ends (F0 sm (AM P N x) (fun _=>true) dom&&F0 sm (AM P N y) rOk dom) (br (AM P N y).ends (F0 sm (AM P N x) rOk dom&&F0 sm (AM P N y) (fun _=>true) dom) (F0 sm (AM P N x) (fun _=>true) dom&&(F0 sm (AM P N y) (fun _=>true) dom&&rOk []))))=true:=hok
   rw [Bool.and_eq_true] at hok
   have hx:(Bm sm env t' c' (fun v=>LY (AM P N x).ends (AM P N y).ends v (H8 can sm cf2 (AM P N x)) (H8 can sm cf2 (AM P N y)) rest env t' h n)).sat Φ:=hx
   have e0:∀ κ:V->R,Bm sm env t' c' κ=κ (ev c' t):=fun κ=>by
    cases c' with
    | c v=>rfl
    | t p=>exact ri.tell hok.1 κ
   rw [e0] at hx
   have g1:=Am hc hT
   generalize hv:ev c' t=v at hx g1
   obtain ⟨_,hok⟩:=hok
   unfold LY at hx
   -- the value is a bool
   have key:∀ (A C:R) (κ:R->R),(∀ s,κ (.fail s) = .fail s)->(∀ x y,κ (.both x y) = .both (κ x) (κ y))->(κ (Al v A C)).sat Φ->∃ q,a.eval c = .bool q∧(κ (br q A C)).sat Φ:=fun A C κ hκ hb hh=>by
    have no:(κ (.fail "")).sat Φ->∃ q,a.eval c = .bool q∧(κ (br q A C)).sat Φ:=fun hh=>by rw [hκ] at hh; exact hh.elim
    cases v with
    | bool q=>exact ⟨q,Du g1,by cases q <;> exact hh⟩
    | oth o=>cases o with
     | bl =>
      have g1:=g1
      simp only [AG] at g1
      obtain ⟨q,hq⟩:=g1
      have hh:(κ (.both A C)).sat Φ:=hh
      rw [hb] at hh
      exact ⟨q,hq,by cases q; exact hh.2; exact hh.1⟩
     | _=>exact no hh
    | _=>exact no hh
   cases hex':(AM P N x).ends with
   | true =>
    rw [hex'] at hx hok hre
    have hok:(F0 sm (AM P N x) (fun _=>true) dom&&F0 sm (AM P N y) rOk dom)=true:=hok
    rw [Bool.and_eq_true] at hok
    obtain ⟨q,hq,hx⟩:=key _ _ id (fun _=>rfl) (fun _ _=>rfl) hx
    refine wp_cond hq ?_
    cases q with
    | true=>exact ihx r0 _ dom env t t' h n Φ hok.1 ri hx φ a w hT g Q hex fun he=>by rw [hex'] at he; cases he
    | false=>exact ihy rest rOk dom env t t' h n Φ hok.2 ri hx φ a w hT g Q hex fun he=>hre (by rw [he]; rfl)
   | false =>
    rw [hex'] at hx hok hre
    have hre:=hre rfl
    cases hey:(AM P N y).ends with
    | true =>
     rw [hey] at hx hok
     have hok:(F0 sm (AM P N x) rOk dom&&F0 sm (AM P N y) (fun _=>true) dom)=true:=hok
     rw [Bool.and_eq_true] at hok
     obtain ⟨q,hq,hx⟩:=key _ _ id (fun _=>rfl) (fun _ _=>rfl) hx
     refine wp_cond hq ?_
     cases q with
     | true=>exact ihx rest rOk dom env t t' h n Φ hok.1 ri hx φ a w hT g Q hex fun _=>hre
     | false=>exact ihy r0 _ dom env t t' h n Φ hok.2 ri hx φ a w hT g Q hex fun he=>by rw [hey] at he; cases he
    | false =>
     rw [hey] at hx hok
     have hok:(F0 sm (AM P N x) (fun _=>true) dom&&(F0 sm (AM P N y) (fun _=>true) dom&&rOk []))=true:=hok
     rw [Bool.and_eq_true,Bool.and_eq_true] at hok
     obtain ⟨q,hq,hx⟩:=key _ _ (fun r=>AB r fun t h n=>rest [] t h n) (fun _=>rfl) (fun _ _=>rfl) hx
     refine wp_cond hq ?_
     have fin:∀ (Z:Code),QE P ρ B N sm Z t h n (Qg (fun t h n=>rest [] t h n) Φ)->Z.wp P Q a w:=fun Z HZ=>by
      refine HZ φ a w hT g Q fun e0 t0 h0 n0 hj φ' a' w' tf f1 g1 T1 hk=>?_
      cases e0 with
      | nrm=>exact hre [] [] tf t0 h0 n0 hok.2.2 (RI.start ri.inj hk) hj φ' a' w' f1 g1 T1
      | exit id=>exact hex _ _ _ _ hj (fun h=>by cases h) φ' a' w' tf f1 g1 T1 hk
      | ret=>exact hex _ _ _ _ hj (fun h=>by cases h) φ' a' w' tf f1 g1 T1 hk
     cases q with
     | true=>exact fin x (ihx.join hok.1 ri (DO hx))
     | false=>exact fin y (ihy.join hok.2.1 ri (DO hx))
  ·exact hx.elim
 | block id b ih =>
  intro rest rOk dom env t t' h n Φ hok ri hx φ a w hT g Q hex hre
  have hok:(F0 sm (AM P N b) (fun _=>true) dom&&rOk [])=true:=hok
  rw [Bool.and_eq_true] at hok
  have hx:(Ad id (H8 can sm cf2 (AM P N b) r0 env t' h n) (fun t h n=>rest [] t h n)).sat Φ:=hx
  have hre:=hre rfl
  refine wp_block (ih.join hok.1 ri (G1 hx) φ a w hT g _ fun e0 t0 h0 n0 hx φ' a' w' tf f1 g1 T1 hk=>?_)
  cases e0 with
  | nrm=>exact hre [] [] tf t0 h0 n0 hok.2 (RI.start ri.inj hk) hx φ' a' w' f1 g1 T1
  | exit j =>
   show (if j=id then Q .normal a' w' else Q (.exit j) a' w')
   rcases hx with ⟨hj,hx⟩ | ⟨hj,hx⟩
   ·rw [if_pos hj]; exact hre [] [] tf t0 h0 n0 hok.2 (RI.start ri.inj hk) hx φ' a' w' f1 g1 T1
   ·rw [if_neg hj]; exact hex _ _ _ _ hx (fun h=>by cases h) φ' a' w' tf f1 g1 T1 hk
  | ret=>exact hex _ _ _ _ hx (fun h=>by cases h) φ' a' w' tf f1 g1 T1 hk
 | loop b ih =>
  intro rest rOk dom env t t' h n Φ hok ri hx φ a w hT g Q hex hre
  have hok:F0 sm (AM P N b) (fun _=>true) []=true:=hok
  have hx:(Wg (can (Kx (AM P N b))) (fun t h n=>H8 can sm cf2 (AM P N b) r0 [] t h n) 1000000000 t' h n).sat Φ:=hx
  refine wp_loop_rounds 1000000000 ?_
  have key:∀ (k:Nat) (t:Regs) (t':S) (h:Heap) (n:K4),(∀ p s,BJ p sm=some s->S.get s t'=Bi p t)->(Wg (can (Kx (AM P N b))) (fun t h n=>H8 can sm cf2 (AM P N b) r0 [] t h n) k t' h n).sat Φ->∀ φ a w,TR ρ N φ t a->Gam ρ B h n φ w →
    (∀ e t1 h1 n1,Φ (.ok e t1 h1 n1)->e ≠ .nrm->∀ φ' a' w' tf,Go.RowKit.Below B w w'->Gam ρ B h1 n1 φ' w'->TR ρ N φ' tf a'->(∀ p s,BJ p sm=some s->S.get s t1=Bi p tf)->Q (IE e) a' w')->Code.rounds P b Q k a w:=by
   intro k
   induction k with
   | zero=>intro t t' h n _ hx; exact hx.elim
   | succ k ihk =>
    intro t t' h n hk0 hx φ a w hT g hQ
    have hx:(can (Kx (AM P N b)) t' h n fun t h n=>AB (H8 can sm cf2 (AM P N b) r0 [] t h n) (Wg (can (Kx (AM P N b))) (fun t h n=>H8 can sm cf2 (AM P N b) r0 [] t h n) k)).sat Φ:=hx
    obtain ⟨t2',h2',n2,φ2,hx,g2,r2⟩:=hcan _ hx ρ B φ w (fun sl x=>∃ s p,s<N∧K2.ofN s=some p∧BJ p sm=some sl∧x=a.tmps.getD s undef)
     (fun sl x y ⟨s,p,_,h2,h3,h4⟩ ⟨s',p',_,h2',h3',h4'⟩=>by
      have:=ri.inj h3 h3'; subst this
      have:=K2.ofN_inj h2 h2'; subst this
      rw [h4,h4'])
     g fun sl x ⟨s,p,h1,h2,h3,h4⟩=>by rw [hk0 p sl h3,h4]; exact hT.at_ s p h1 h2
    have T2:TR ρ N φ2 (Nk sm t2') a:=⟨hT.size,hT.defers,fun s p h1 h2=>by
     rw [Gh]
     cases hf:BJ p sm with
     | none=>simp only [AG]
     | some sl=>exact r2 sl _ ⟨s,p,h1,h2,hf,rfl⟩⟩
    refine ih.join hok (RI.start ri.inj fun p s hf=>by rw [Gh,hf]) (DO hx) φ2 a w T2 g2 _ fun e0 t0 h0 n0 hx φ' a' w' tf f1 g1 T1 hk=>?_
    cases e0 with
    | nrm=>exact ihk tf t0 h0 n0 hk hx φ' a' w' T1 g1 fun e t1 h1 n1 hΦ hne φ3 a3 w3 tf3 f3 g3 T3 hk3=>hQ e t1 h1 n1 hΦ hne φ3 a3 w3 tf3 (Go.RowKit.Below.trans f1 f3) g3 T3 hk3
    | exit id=>exact hQ _ _ _ _ hx (fun h=>by cases h) φ' a' w' tf f1 g1 T1 hk
    | ret=>exact hQ _ _ _ _ hx (fun h=>by cases h) φ' a' w' tf f1 g1 T1 hk
  exact key _ t t' h n ri.keep hx φ a w hT g hex
 | rangeFunc _ _ _ _=>intro rest rOk dom env t t' h n Φ hok ri hx; exact hx.elim
 | scope _=>intro rest rOk dom env t t' h n Φ hok ri hx; exact hx.elim
 | goto _=>intro rest rOk dom env t t' h n Φ hok ri hx; exact hx.elim
 | refuse _=>intro rest rOk dom env t t' h n Φ hok ri hx; exact hx.elim
end
section
variable {P:Program} {ρ:Env} {B:Nat} {can:Nat->Ha}
theorem Py (hcan:∀ b,EV (can b)) (hρ:Bq ρ) (hm:P.follows .mixedOrders=true) {cf:CF} {cf2:FZ} (hct:Gn P ρ B cf) (hR:FJ P ρ B cf) (h2:∀ f,cf2 (BC f)=cf f) {f:FuncId} {e:Ent} (he:Ku can P f e) {args:List V} {h:Heap} {n:K4} {Φ:R->Prop}
  (hr:(Ld cf2 (some e) args h n).sat Φ) {φ:B6} {w:World} {xs:Array Value} (g:Gam ρ B h n φ w) (hxs:Bu ρ φ args xs.toList) :
  HV P f xs w fun x w'=>∃ v h1 n1 φ',Φ (.rv v h1 n1)∧Go.RowKit.Below B w w'∧Gam ρ B h1 n1 φ' w'∧AG ρ φ' v x:=by
 obtain ⟨sm,hd,hok⟩:=he
 cases hf:G2 P f with
 | none=>rw [hf] at hd; cases hd
 | some a =>
  rw [hf] at hd hok
  obtain ⟨fn,c,ps,rs,hfn,hb,hps,hrs,hname,rfl⟩:=Kl hf
  have hd:some (Ent.code (fun l κ=>J1 ps l Gs fun t=>κ (Ul sm t)) (fun cf t h n=>H8 can sm cf (AM P fn.ntmps c) r0 [] t h n) (fun t h n=>I1 sm rs t h n))=some e:=hd
  cases hd
  have hok:(Ol sm&&(F0 sm (AM P fn.ntmps c) (fun _=>true) []&&rs.all fun r=>Gl sm r.reg))=true:=hok
  rw [Bool.and_eq_true,Bool.and_eq_true] at hok
  obtain ⟨hsm,hok⟩:=hok
  have inj:∀ {p q s},BJ p sm=some s->BJ q sm=some s->p=q:=fun h h'=>Kv hsm h h'
  have hr:(J1 ps args Gs (fun t=>Pv (H8 can sm cf2 (AM P fn.ntmps c) r0 [] (Ul sm t) h n) fun t h n=>I1 sm rs t h n)).sat Φ:=hr
  rw [JI] at hr
  obtain ⟨hlen,t0,e2,H0⟩:=Iz (k:=0) (fun i s hi=>by
   obtain ⟨hi',hi2⟩:=List.getElem?_eq_some_iff.1 hi
   simp at hi2; omega) hps (R.sat_good hr)
  rw [e2] at hr
  simp only [List.length_range] at hlen
  have hxl:xs.size=args.length:=by have:=Bf hxs; simpa using this
  have hxN:xs.size≤fn.ntmps:=by
   rcases Nat.eq_zero_or_pos xs.size with h0 | h0
   ·omega
   ·have:=IG hps (xs.size - 1) (List.mem_range.2 (by omega)); omega
  have hT:TR ρ fn.ntmps φ t0 { tmps:=xs++Array.replicate (fn.ntmps - xs.size) undef,defers:=[] }:={
   size:=by simp; omega
   defers:=rfl
   at_:=fun s p hs hp=>by
    rw [H0 s p hp,if_pos (Nat.zero_le _),Nat.sub_zero,IX]
    show AG ρ φ _ ((xs++Array.replicate (fn.ntmps - xs.size) undef).getD s undef)
    rw [Array.getD_eq_getD_getElem?]
    by_cases hsx:s<xs.size
    ·rw [Array.getElem?_append_left hsx]
     have hsa:s<args.length:=by omega
     rw [List.getElem?_eq_getElem hsa]
     obtain ⟨x,hx,hrx⟩:=(Cc.1 hxs).2 s _ (List.getElem?_eq_getElem hsa)
     rw [Array.getElem?_toList] at hx
     rw [hx]; exact hrx
    ·rw [Array.getElem?_append_right (by omega),Array.getElem?_replicate,if_pos (by omega),List.getElem?_eq_none (by omega)]
     exact DN }
  have hx:=Is hr
  have hOK:=(Uu (N:=fn.ntmps) (sm:=sm) hcan hρ hm hct hR h2 c).join hok.1 (RI.start inj fun p s hs=>MZ hsm hs) hx
  intro o a K Q hK
  have hcf':(callFunc f xs).run P w = .ok (.enter f xs) w:=by
   have hname':fn.name ≠ "runtime.NumGoroutine":=by simpa using hname
   simp [callFunc,hfn,hname',hb]
  rw [hcf']
  refine calls_of_wp hfn hb (hOK φ _ w hT g _ fun e t1 h2' n2 hres φ' a' w' tf f1 g1 T1 hk=>?_)
  have fin:(I1 sm rs t1 h2' n2).sat Φ->∃ X,(results fn a'.tmps).run P w' = .ok X w'∧K (a.put o.dst X) w':=fun hres=>by
   rw [Ox (RI.start inj hk) fun r hr=>List.all_eq_true.1 hok.2 r hr] at hres
   obtain ⟨v,hv⟩:=QL (R.sat_good hres)
   obtain ⟨_,_,Hres⟩:=Mz (ρ:=ρ) (B:=B) hrs hv
   rw [hv] at hres
   obtain ⟨X,hX,hrX⟩:=Hres φ' a' w' T1 g1
   exact ⟨X,hX,hK X w' ⟨v,h2',n2,φ',hres,f1,g1,hrX⟩⟩
  cases e with
  | nrm=>obtain ⟨X,hX,hKX⟩:=fin hres; exact ⟨T1.defers,X,hX,hKX⟩
  | exit id=>exact hres.elim
  | ret=>obtain ⟨X,hX,hKX⟩:=fin hres; exact ⟨T1.defers,X,hX,hKX⟩
theorem MC (hcan:∀ b,EV (can b)) (hρ:Bq ρ) (hm:P.follows .mixedOrders=true) {T:FC} (hT:∀ B,Hi P ρ B T) {m:Nat} {f:FuncId} {fn:Func} {e:Ent} (he:Ku can P f e) {args:List V}
  (hf:P.funcs[f]? = some fn) (hb:fn.body.isSome=true) (hn:(fn.name == "runtime.NumGoroutine")=false) (hx:Gf (Ld (EQ T m) (some e) args AT Pp)=true) {xs:Array Value} (hr:Bu ρ (fun _=>none) args xs.toList) (w:World) (hgl:VA ρ w:=by intro b c e fr h; have h:(none:Option (Array Value×TypeId×(Nat×Nat)))=some (c,e,fr):=h; cases h) :
  Calls P f xs w fun e w'=>e = .returned (.bool true)∧Go.RowKit.Below w.heap.size w w':=by
 obtain ⟨c,hc⟩:=Option.isSome_iff_exists.1 hb
 obtain ⟨hct,hR⟩:=LK (B:=w.heap.size) hρ hm (hT _) m
 have:=Hh (R:=fun x w'=>x = .bool true∧Go.RowKit.Below w.heap.size w w') hf hc (by simpa using hn) (fun o a K Q hK =>
  Py hcan hρ hm hct hR (fun _=>rfl) he (KM hx) (LD w Pp hgl) hr o a K Q fun x w' ⟨v,h1,n1,φ',⟨h2,n2,e⟩,f1,_,r1⟩=>hK x w' ⟨by cases e; simpa only [AG] using r1,f1⟩)
 refine this.mono fun e w' he=>?_
 cases e with
 | returned v=>exact ⟨by rw [he.1],he.2⟩
 | _=>exact he.elim
end
end Go.Ev

namespace Go.Ev
set_option linter.unusedVariables false
def HF (v:V) (a:R) (κ:Nat->Nat->Nat->Nat->R):R:=match v with
 | .oth (.ro i lo hi z)=>κ i lo hi z
 | _=>a
theorem NM (v:V) (a:R) (κ:Nat->Nat->Nat->Nat->R):HF v a κ=a ∨ ∃ i lo hi z,v = .oth (.ro i lo hi z)∧HF v a κ=κ i lo hi z:=by
 cases v with
 | oth o=>cases o with
  | ro i lo hi z=>exact .inr ⟨i,lo,hi,z,rfl,rfl⟩
  | _=>exact .inl rfl
 | _=>exact .inl rfl
abbrev OA (s:SL) (mx:Nat):Ha:=fun t h n κ=>HF (S.get s t) (κ t h n) fun i lo hi z=>br (Nat.ble hi mx) (κ (S.put s t (.oth (.ro i 0 mx z))) h n) (κ t h n)
abbrev Jl (s c:SL):Ha:=fun t h n κ=>HF (S.get s t) (κ t h n) fun i lo hi z=>H5 (S.get c t) (κ t h n) fun r=>Ai (Nat.succ r) fun r1 =>
 .both (κ (S.put s t (.oth (.ro i lo r z))) h n) (κ (S.put s t (.oth (.ro i r1 hi z))) h n)
abbrev Q4 (a b:Ha):Ha:=fun t h n κ=>a t h n fun t h n=>b t h n κ
theorem Sf (s:SL) (mx:Nat):EV (OA s mx):=fun {t h n κ Φ} hs ρ B φ w A hfun g hA=>by
 have same:(κ t h n).sat Φ->∃ t2 h2 n2 φ2,(κ t2 h2 n2).sat Φ∧Gam ρ B h2 n2 φ2 w ∧ ∀ s x,A s x->AG ρ φ2 (S.get s t2) x:=fun hs=>⟨t,h,n,φ,hs,g,hA⟩
 rcases NM (S.get s t) (κ t h n) (fun i lo hi z=>br (Nat.ble hi mx) (κ (S.put s t (.oth (.ro i 0 mx z))) h n) (κ t h n)) with e | ⟨i,lo,hi,z,hv,e⟩
 ·exact same (by rw [←e]; exact hs)
 have hs:(HF (S.get s t) (κ t h n) fun i lo hi z=>br (Nat.ble hi mx) (κ (S.put s t (.oth (.ro i 0 mx z))) h n) (κ t h n)).sat Φ:=hs
 rw [e] at hs
 cases hb:Nat.ble hi mx with
 | false=>rw [hb] at hs; exact same hs
 | true =>
  rw [hb] at hs
  refine ⟨_,_,_,φ,hs,g,fun q x hx=>?_⟩
  by_cases e:s=q
  ·subst e
   have hr:=hA s x hx
   rw [hv] at hr
   rw [S.get_put_same]
   simp only [AG] at hr ⊢
   obtain ⟨b,o,len,cap,c,el,fr,rfl,h1,h2,h3⟩:=hr
   exact ⟨b,o,len,cap,c,el,fr,rfl,Nat.zero_le _,Nat.le_trans h2 (Nat.le_of_ble_eq_true hb),h3⟩
  ·rw [S.get_put_ne t _ e]; exact hA q x hx
theorem Sk (s c:SL):EV (Jl s c):=fun {t h n κ Φ} hs ρ B φ w A hfun g hA=>by
 have same:(κ t h n).sat Φ->∃ t2 h2 n2 φ2,(κ t2 h2 n2).sat Φ∧Gam ρ B h2 n2 φ2 w ∧ ∀ s x,A s x->AG ρ φ2 (S.get s t2) x:=fun hs=>⟨t,h,n,φ,hs,g,hA⟩
 obtain ⟨F,hF⟩:∃ F:Nat->Nat->Nat->Nat->R,F=fun i lo hi z=>H5 (S.get c t) (κ t h n) fun r=>Ai (Nat.succ r) fun r1=>.both (κ (S.put s t (.oth (.ro i lo r z))) h n) (κ (S.put s t (.oth (.ro i r1 hi z))) h n):=⟨_,rfl⟩
 have hs:(HF (S.get s t) (κ t h n) F).sat Φ:=by rw [hF]; exact hs
 rcases NM (S.get s t) (κ t h n) F with e | ⟨i,lo,hi,z,hv,e⟩
 ·exact same (by rw [←e]; exact hs)
 rw [e,hF] at hs
 have hs:(H5 (S.get c t) (κ t h n) fun r=>Ai (Nat.succ r) fun r1=>.both (κ (S.put s t (.oth (.ro i lo r z))) h n) (κ (S.put s t (.oth (.ro i r1 hi z))) h n)).sat Φ:=hs
 rcases Oy (S.get c t) (κ t h n) (fun r=>Ai (Nat.succ r) fun r1=>.both (κ (S.put s t (.oth (.ro i lo r z))) h n) (κ (S.put s t (.oth (.ro i r1 hi z))) h n)) with e | ⟨r,hc,e⟩
 ·rw [e] at hs; exact same hs
 rw [e,Ah] at hs
 have two:(κ (S.put s t (.oth (.ro i lo r z))) h n).sat Φ∧(κ (S.put s t (.oth (.ro i (r+1) hi z))) h n).sat Φ:=hs
 by_cases hx:∃ x,A s x
 ·obtain ⟨x,hx⟩:=hx
  have hr:=hA s x hx
  rw [hv] at hr
  simp only [AG] at hr
  obtain ⟨b,o,len,cap,ce,el,fr,rfl,h1,h2,h3⟩:=hr
  by_cases hl:len≤r
  ·refine ⟨_,_,_,φ,two.1,g,fun q y hy=>?_⟩
   by_cases e:s=q
   ·subst e
    rw [S.get_put_same,hfun s y _ hy hx]
    simp only [AG]
    exact ⟨b,o,len,cap,ce,el,fr,rfl,h1,hl,h3⟩
   ·rw [S.get_put_ne t _ e]; exact hA q y hy
  ·refine ⟨_,_,_,φ,two.2,g,fun q y hy=>?_⟩
   by_cases e:s=q
   ·subst e
    rw [S.get_put_same,hfun s y _ hy hx]
    simp only [AG]
    exact ⟨b,o,len,cap,ce,el,fr,rfl,by omega,h2,h3⟩
   ·rw [S.get_put_ne t _ e]; exact hA q y hy
 ·refine ⟨_,_,_,φ,two.1,g,fun q y hy=>?_⟩
  by_cases e:s=q
  ·subst e; exact absurd ⟨y,hy⟩ hx
  ·rw [S.get_put_ne t _ e]; exact hA q y hy
theorem MN {a b:Ha} (ha:EV a) (hb:EV b):EV (Q4 a b):=fun {t h n κ Φ} hs ρ B φ w A hfun g hA=>by
 obtain ⟨t2,h2,n2,φ2,s2,g2,r2⟩:=ha (κ:=fun t h n=>b t h n κ) hs ρ B φ w A hfun g hA
 exact hb s2 ρ B φ2 w A hfun g2 r2
end Go.Ev

namespace Go.Ev
set_option linter.unusedVariables false
abbrev KS:=S->Heap->K4->R
def Un (C:KS->R):Prop:=(∃ t h n,∀ κ,C κ=κ t h n) ∨ ∃ w,∀ κ,C κ = .fail w
def Cj (ok:R->Prop) (C:KS->R):Prop:=∀ κ1 κ2 κ:KS,(∀ t h n,ok (κ1 t h n)->ok (κ2 t h n)->ok (κ t h n))->ok (C κ1)->ok (C κ2)->ok (C κ)
theorem TV {C:KS->R} (hC:Un C) {G:KS->KS} (hG:∀ t h n,Un fun κ=>G κ t h n):Un fun κ=>C (G κ):=by
 rcases hC with ⟨t,h,n,e⟩ | ⟨w,e⟩
 ·rcases hG t h n with ⟨t2,h2,n2,e2⟩ | ⟨w,e2⟩
  ·exact .inl ⟨t2,h2,n2,fun κ=>(e _).trans (e2 κ)⟩
  ·exact .inr ⟨w,fun κ=>(e _).trans (e2 κ)⟩
 ·exact .inr ⟨w,fun κ=>e _⟩
theorem V1 {ok:R->Prop} {C:KS->R} (hC:Un C):Cj ok C:=fun κ1 κ2 κ H h1 h2=>by
 rcases hC with ⟨t,h,n,e⟩ | ⟨w,e⟩
 ·rw [e] at h1 h2 ⊢; exact H t h n h1 h2
 ·rw [e] at h1 ⊢; exact h1
theorem If {ok:R->Prop} {C:KS->R} (hC:Cj ok C) {G:KS->KS} (hG:∀ t h n,Cj ok fun κ=>G κ t h n):Cj ok fun κ=>C (G κ) :=
 fun κ1 κ2 κ H h1 h2=>hC _ _ _ (fun t h n a b=>hG t h n κ1 κ2 κ H a b) h1 h2
theorem TS {ok:R->Prop} (hb:∀ a b,ok (.both a b) ↔ ok a∧ok b):∀ r:R,Cj ok fun κ=>AB r κ:=fun r=>by
 induction r with
 | ok e t h n =>
  intro κ1 κ2 κ H h1 h2
  cases e with
  | nrm=>exact H t h n h1 h2
  | exit id=>exact h1
  | ret=>exact h1
 | rv v h n=>exact fun κ1 κ2 κ H h1 h2=>h1
 | fail w=>exact fun κ1 κ2 κ H h1 h2=>h1
 | both a b iha ihb =>
  intro κ1 κ2 κ H h1 h2
  have h1:=(hb _ _).1 (show ok (.both (AB a κ1) (AB b κ1)) from h1)
  have h2:=(hb _ _).1 (show ok (.both (AB a κ2) (AB b κ2)) from h2)
  exact (hb _ _).2 ⟨iha κ1 κ2 κ H h1.1 h2.1,ihb κ1 κ2 κ H h1.2 h2.2⟩
theorem Kh (h:Heap):∀ (k:Nat) (todo:List K4) (hs:Heap) (acc:List K4),∃ hs' acc',∀ κ,Cl h k todo hs acc κ=κ hs' acc'
 | 0,todo,hs,acc=>⟨hs,acc,fun _=>rfl⟩
 | k+1,[],hs,acc=>⟨hs,acc,fun _=>rfl⟩
 | k+1,p::todo,hs,acc=>by
  have e:∀ κ,Cl h (k+1) (p::todo) hs acc κ=Bk p hs fun o=>@Option.rec Ob (fun _=>R)
   (Bk p h fun o=>@Option.rec Ob (fun _=>R) (Cl h k todo hs acc κ) (fun ob=>br (Ec ob) (Bx p hs (some (JX ob)) fun hs=>Cl h k (Pg ob todo) hs (p::acc) κ) (Cl h k todo hs acc κ)) o)
   (fun _=>Cl h k todo hs acc κ) o:=fun _=>rfl
  obtain ⟨a,b,H⟩:=Kh h k todo hs acc
  cases h1:AL p hs with
  | some o=>exact ⟨a,b,fun κ=>by rw [e,Bc,h1]; exact H κ⟩
  | none =>
   cases h2:AL p h with
   | none=>exact ⟨a,b,fun κ=>by rw [e,Bc,h1]; show Bk p h _=_; rw [Bc,h2]; exact H κ⟩
   | some ob =>
    cases h3:Ec ob with
    | false=>exact ⟨a,b,fun κ=>by rw [e,Bc,h1]; show Bk p h _=_; rw [Bc,h2]; show br (Ec ob) _ _=_; rw [h3]; exact H κ⟩
    | true =>
     obtain ⟨a,b,H⟩:=Kh h k (Pg ob todo) (B5 p hs (some (JX ob))) (p::acc)
     exact ⟨a,b,fun κ=>by rw [e,Bc,h1]; show Bk p h _=_; rw [Bc,h2]; show br (Ec ob) _ _=_; rw [h3]; show Bx p hs _ _=_; rw [BD,Bt]; exact H κ⟩
theorem X3 (p:K4):(∃ w,∀ k:K4->R,p.nx k = .fail w) ∨ ∃ q,∀ k:K4->R,p.nx k=k q:=by
 obtain ⟨a,b,c,d⟩:=p
 cases d <;> first | exact .inr ⟨_,fun _=>rfl⟩ | (cases c <;> first | exact .inr ⟨_,fun _=>rfl⟩ | (cases b <;> first | exact .inr ⟨_,fun _=>rfl⟩ | (cases a <;> first | exact .inr ⟨_,fun _=>rfl⟩ | exact .inl ⟨_,fun _=>rfl⟩)))
theorem T4:∀ (acc:List K4) (m:Heap) (q:K4),(∃ m' q',∀ κ,KI acc m q κ=κ m' q') ∨ ∃ w,∀ κ,KI acc m q κ = .fail w
 | [],m,q=>.inl ⟨m,q,fun _=>rfl⟩
 | p::acc,m,q=>by
  have e:∀ κ,KI (p::acc) m q κ=q.nx fun q'=>KI acc (B5 p m (some (.it q 0 [] 0))) q' κ:=fun κ=>by
   show (Bx p m (some (.it q 0 [] 0)) fun m=>q.nx fun q'=>KI acc m q' κ)=_
   rw [BD,Bt]
  rcases X3 q with ⟨w,e1⟩ | ⟨q',e1⟩
  ·exact .inr ⟨w,fun κ=>(e κ).trans (e1 _)⟩
  ·rcases T4 acc (B5 p m (some (.it q 0 [] 0))) q' with ⟨a,b,H⟩ | ⟨w,H⟩
   ·exact .inl ⟨a,b,fun κ=>((e κ).trans (e1 _)).trans (H κ)⟩
   ·exact .inr ⟨w,fun κ=>((e κ).trans (e1 _)).trans (H κ)⟩
theorem Pd (hs m:Heap):∀ (acc:List K4) (h:Heap),∃ h',∀ κ,Ff hs m acc h κ=κ h'
 | [],h=>⟨h,fun _=>rfl⟩
 | p::acc,h=>by
  have e:∀ κ,Ff hs m (p::acc) h κ=Bk p hs fun o=>@Option.rec Ob (fun _=>R) (Ff hs m acc h κ) (fun ob=>Nz m p (Ff hs m acc h κ) fun q=>OE m ob (Ff hs m acc h κ) fun ob=>Bx q h (some ob) fun h=>Ff hs m acc h κ) o:=fun _=>rfl
  obtain ⟨h',H⟩:=Pd hs m acc h
  cases h1:AL p hs with
  | none=>exact ⟨h',fun κ=>by rw [e,Bc,h1]; exact H κ⟩
  | some ob =>
   cases h2:Hc m p with
   | none=>exact ⟨h',fun κ=>by rw [e,Bc,h1]; show Nz m p _ _=_; rw [Hw,h2]; exact H κ⟩
   | some q =>
    cases h3:PA m ob with
    | none=>exact ⟨h',fun κ=>by rw [e,Bc,h1]; show Nz m p _ _=_; rw [Hw,h2]; show OE m ob _ _=_; rw [N5,h3]; exact H κ⟩
    | some ob' =>
     obtain ⟨h',H⟩:=Pd hs m acc (B5 q h (some ob'))
     exact ⟨h',fun κ=>by rw [e,Bc,h1]; show Nz m p _ _=_; rw [Hw,h2]; show OE m ob _ _=_; rw [N5,h3]; show Bx q h _ _=_; rw [BD,Bt]; exact H κ⟩
theorem Gj (m:Heap) (x:SQ):∃ y,∀ κ,DZ m x κ=κ y:=by
 obtain ⟨a,b,c,d⟩:=x
 refine ⟨.mk (ER m a) (ER m b) (ER m c) (ER m d),fun κ=>?_⟩
 show (Ny m a fun a=>Ny m b fun b=>Ny m c fun c=>Ny m d fun d=>κ (.mk a b c d))=_
 rw [EB,EB,EB,EB]
theorem Vy (m:Heap) (x:S):∃ y,∀ κ,Vm m x κ=κ y:=by
 obtain ⟨a0,a1,a2,a3,a4,a5,a6,a7⟩:=x
 obtain ⟨y0,h0⟩:=Gj m a0; obtain ⟨y1,h1⟩:=Gj m a1; obtain ⟨y2,h2⟩:=Gj m a2; obtain ⟨y3,h3⟩:=Gj m a3
 obtain ⟨y4,h4⟩:=Gj m a4; obtain ⟨y5,h5⟩:=Gj m a5; obtain ⟨y6,h6⟩:=Gj m a6; obtain ⟨y7,h7⟩:=Gj m a7
 refine ⟨.mk y0 y1 y2 y3 y4 y5 y6 y7,fun κ=>?_⟩
 show (DZ m a0 fun a0=>DZ m a1 fun a1=>DZ m a2 fun a2=>DZ m a3 fun a3=>DZ m a4 fun a4=>DZ m a5 fun a5=>DZ m a6 fun a6=>DZ m a7 fun a7=>κ (.mk a0 a1 a2 a3 a4 a5 a6 a7))=_
 rw [h0,h1,h2,h3,h4,h5,h6,h7]
theorem W2 {k:Nat} {y:S} (hy:∀ t,∃ t1,∀ κ:S->R,Y8 y t κ=κ t1) (t:S) (h:Heap) (n:K4):Un fun κ=>RU k y t h n κ:=by
 obtain ⟨t1,e1⟩:=hy t
 obtain ⟨hh,acc,e2⟩:=Kh h k (Rw (Zq t1) []) AT []
 have e:∀ κ:KS,RU k y t h n κ=KI acc AT Pp fun m n=>Ff hh m acc AT fun h'=>Vm m t1 fun t=>κ t h' n:=fun κ=>by
  show Th k y t h κ=_
  unfold Th
  rw [e1,e2]
 rcases T4 acc AT Pp with ⟨m,q,e3⟩ | ⟨w,e3⟩
 ·obtain ⟨h',e4⟩:=Pd hh m acc AT
  obtain ⟨t2,e5⟩:=Vy m t1
  exact .inl ⟨t2,h',q,fun κ=>by show RU k y t h n κ=_; rw [e,e3,e4,e5]⟩
 ·exact .inr ⟨w,fun κ=>by show RU k y t h n κ=_; rw [e,e3]⟩
theorem Xp (s:SL) (mx:Nat) (t:S) (h:Heap) (n:K4):Un fun κ=>OA s mx t h n κ:=by
 have d:(∀ κ:KS,OA s mx t h n κ=κ t h n) ∨ ∃ i lo hi z,S.get s t = .oth (.ro i lo hi z):=by
  cases hv:S.get s t with
  | oth o=>cases o with
   | ro i lo hi z=>exact .inr ⟨i,lo,hi,z,rfl⟩
   | _=>exact .inl fun κ=>by show HF (S.get s t) _ _=_; rw [hv]; rfl
  | _=>exact .inl fun κ=>by show HF (S.get s t) _ _=_; rw [hv]; rfl
 rcases d with d | ⟨i,lo,hi,z,hv⟩
 ·exact .inl ⟨t,h,n,d⟩
 ·cases hb:Nat.ble hi mx with
  | true=>exact .inl ⟨S.put s t (.oth (.ro i 0 mx z)),h,n,fun κ=>by show HF (S.get s t) _ _=_; rw [hv]; show br (Nat.ble hi mx) _ _=_; rw [hb]; rfl⟩
  | false=>exact .inl ⟨t,h,n,fun κ=>by show HF (S.get s t) _ _=_; rw [hv]; show br (Nat.ble hi mx) _ _=_; rw [hb]; rfl⟩
theorem Ww {ok:R->Prop} (hb:∀ a b,ok (.both a b) ↔ ok a∧ok b) (s c:SL) (t:S) (h:Heap) (n:K4):Cj ok fun κ=>Jl s c t h n κ:=by
 have d:(∀ κ:KS,Jl s c t h n κ=κ t h n) ∨ ∃ t1 t2,∀ κ:KS,Jl s c t h n κ = .both (κ t1 h n) (κ t2 h n):=by
  cases hv:S.get s t with
  | oth o=>cases o with
   | ro i lo hi z =>
    cases hc:S.get c t with
    | int k r =>
     cases hk:Bj k .i64 with
     | false=>exact .inl fun κ=>by show HF (S.get s t) _ _=_; rw [hv]; show H5 (S.get c t) _ _=_; rw [hc]; show br (Bj k .i64) _ _=_; rw [hk]; rfl
     | true=>exact .inr ⟨S.put s t (.oth (.ro i lo r z)),S.put s t (.oth (.ro i (Nat.succ r) hi z)),fun κ=>by show HF (S.get s t) _ _=_; rw [hv]; show H5 (S.get c t) _ _=_; rw [hc]; show br (Bj k .i64) _ _=_; rw [hk]; show Ai (Nat.succ r) _=_; rw [Ah]⟩
    | _=>exact .inl fun κ=>by show HF (S.get s t) _ _=_; rw [hv]; show H5 (S.get c t) _ _=_; rw [hc]; rfl
   | _=>exact .inl fun κ=>by show HF (S.get s t) _ _=_; rw [hv]; rfl
  | _=>exact .inl fun κ=>by show HF (S.get s t) _ _=_; rw [hv]; rfl
 rcases d with d | ⟨t1,t2,d⟩
 ·exact V1 (.inl ⟨t,h,n,d⟩)
 ·intro κ1 κ2 κ H h1 h2
  have h1:ok (Jl s c t h n κ1):=h1
  have h2:ok (Jl s c t h n κ2):=h2
  show ok (Jl s c t h n κ)
  rw [d] at h1 h2 ⊢
  exact (hb _ _).2 ⟨H _ _ _ ((hb _ _).1 h1).1 ((hb _ _).1 h2).1,H _ _ _ ((hb _ _).1 h1).2 ((hb _ _).1 h2).2⟩
abbrev LR (A B:Ha) (body:KS) (K:KS):KS:=fun t h n=>B t h n fun t h n=>AB (body t h n) fun t h n=>A t h n K
def FN (A B:Ha) (body G:KS) (k:Nat):KS:=@Nat.rec (fun _=>KS) G (fun _ ih=>LR A B body ih) k
def S8 (A B:Ha) (body D G:KS) (q:K4) (l:List Bool):KS :=
 @List.rec Bool (fun _=>KS) G (fun b _ ih=>LR A B body fun t h n=>br (br b (n.beq q) (br (n.beq q) false true)) (ih t h n) (D t h n)) l
theorem QG {ok:R->Prop} (hb:∀ a b,ok (.both a b) ↔ ok a∧ok b) {A B:Ha} {body D G:KS} {q:K4} (hA:∀ t h n,Un fun κ=>A t h n κ) (hB:∀ t h n,Cj ok fun κ=>B t h n κ) :
  ∀ (k:Nat) (C:KS->R),Cj ok C->(∀ l:List Bool,l.length=k->ok (C (S8 A B body D G q l)))->ok (C (FN A B body G k))
 | 0,C,hC,H=>H [] rfl
 | k+1,C,hC,H=>by
  have st:∀ t h n,Cj ok fun K=>LR A B body K t h n:=fun t h n =>
   If (hB t h n) (G:=fun K t h n=>AB (body t h n) fun t h n=>A t h n K) fun t h n=>If (TS hb (body t h n)) (G:=fun K t h n=>A t h n K) fun t h n=>V1 (hA t h n)
  have sb:∀ b:Bool,ok (C (LR A B body fun t h n=>br (br b (n.beq q) (br (n.beq q) false true)) (FN A B body G k t h n) (D t h n))):=fun b =>
   QG hb hA hB k (fun K=>C (LR A B body fun t h n=>br (br b (n.beq q) (br (n.beq q) false true)) (K t h n) (D t h n)))
    (If (If hC st) (G:=fun K t h n=>br (br b (n.beq q) (br (n.beq q) false true)) (K t h n) (D t h n)) fun t h n κ1 κ2 κ H h1 h2=>by
     have h1:ok (br (br b (n.beq q) (br (n.beq q) false true)) (κ1 t h n) (D t h n)):=h1
     have h2:ok (br (br b (n.beq q) (br (n.beq q) false true)) (κ2 t h n) (D t h n)):=h2
     show ok (br (br b (n.beq q) (br (n.beq q) false true)) (κ t h n) (D t h n))
     cases hx:(br b (n.beq q) (br (n.beq q) false true):Bool) with
     | true=>rw [hx] at h1 h2; exact H t h n h1 h2
     | false=>rw [hx] at h1; exact h1)
    fun l hl=>H (b::l) (by rw [List.length_cons,hl])
  refine If hC st _ _ (FN A B body G k) (fun t h n h1 h2=>?_) (sb true) (sb false)
  cases hx:n.beq q with
  | true =>
   have h1:ok (br (br true (n.beq q) (br (n.beq q) false true)) (FN A B body G k t h n) (D t h n)):=h1
   rw [hx] at h1; exact h1
  | false =>
   have h2:ok (br (br false (n.beq q) (br (n.beq q) false true)) (FN A B body G k t h n) (D t h n)):=h2
   rw [hx] at h2; exact h2
theorem TQ {ok:R->Prop} (hb:∀ a b,ok (.both a b) ↔ ok a∧ok b) {A B:Ha} {body D G:KS} {q:K4} (hA:∀ t h n,Un fun κ=>A t h n κ) (hB:∀ t h n,Cj ok fun κ=>B t h n κ)
  {k:Nat} {t:S} {h:Heap} {n:K4} (H:∀ l:List Bool,l.length=k->ok (S8 A B body D G q l t h n)):ok (FN A B body G k t h n) :=
 QG hb hA hB k (fun K=>K t h n) (fun κ1 κ2 κ H h1 h2=>H t h n h1 h2) H
end Go.Ev
