/- AN EVALUATOR OF THE MODEL OF Go, PROVED SOUND, PART 5: what it says of a call holds in every world, on every tape. Conditions: none of its own; each theorem bears its premises. -/
import Derived.Test.YtbjghkngijepbaaGreatDoorSAEv4
noncomputable section
set_option linter.unusedSimpArgs false
set_option linter.unusedVariables false
namespace Go.Ev
set_option linter.unusedVariables false
def O9 (v:V) (a:R) (κ:Nat->Nat->Nat->Nat->R):R:=match v with
 | .oth (.ro i lo hi z)=>κ i lo hi z
 | _=>a
theorem Ka (v:V) (a:R) (κ:Nat->Nat->Nat->Nat->R):O9 v a κ=a ∨ ∃ i lo hi z,v = .oth (.ro i lo hi z)∧O9 v a κ=κ i lo hi z:=by
 cases v with
 | oth o=>cases o with
  | ro i lo hi z=>exact .inr ⟨i,lo,hi,z,rfl,rfl⟩
  | _=>exact .inl rfl
 | _=>exact .inl rfl
abbrev UF (s c:SL):Ii:=fun t h n κ=>O9 (S.get s t) (κ t h n) fun i lo hi z=>Gb (S.get c t) (κ t h n) fun r=>Ah (Nat.succ r) fun r1 =>
 .both (κ (S.put s t (.oth (.ro i lo r z))) h n) (κ (S.put s t (.oth (.ro i r1 hi z))) h n)
abbrev MR (a b:Ii):Ii:=fun t h n κ=>a t h n fun t h n=>b t h n κ
theorem Tr (s c:SL):Eu (UF s c):=fun {t h n κ Φ} hs ρ B φ w A hfun g hA=>by
 have same:(κ t h n).sat Φ->∃ t2 h2 n2 φ2,(κ t2 h2 n2).sat Φ∧Gam ρ B h2 n2 φ2 w ∧ ∀ s x,A s x->AD ρ φ2 (S.get s t2) x:=fun hs=>⟨t,h,n,φ,hs,g,hA⟩
 obtain ⟨F,hF⟩:∃ F:Nat->Nat->Nat->Nat->R,F=fun i lo hi z=>Gb (S.get c t) (κ t h n) fun r=>Ah (Nat.succ r) fun r1=>.both (κ (S.put s t (.oth (.ro i lo r z))) h n) (κ (S.put s t (.oth (.ro i r1 hi z))) h n):=⟨_,rfl⟩
 have hs:(O9 (S.get s t) (κ t h n) F).sat Φ:=by rw [hF]; exact hs
 rcases Ka (S.get s t) (κ t h n) F with e | ⟨i,lo,hi,z,hv,e⟩
 ·exact same (by rw [←e]; exact hs)
 rw [e,hF] at hs
 have hs:(Gb (S.get c t) (κ t h n) fun r=>Ah (Nat.succ r) fun r1=>.both (κ (S.put s t (.oth (.ro i lo r z))) h n) (κ (S.put s t (.oth (.ro i r1 hi z))) h n)).sat Φ:=hs
 rcases Ky (S.get c t) (κ t h n) (fun r=>Ah (Nat.succ r) fun r1=>.both (κ (S.put s t (.oth (.ro i lo r z))) h n) (κ (S.put s t (.oth (.ro i r1 hi z))) h n)) with e | ⟨r,hc,e⟩
 ·rw [e] at hs; exact same hs
 rw [e,Af] at hs
 have two:(κ (S.put s t (.oth (.ro i lo r z))) h n).sat Φ∧(κ (S.put s t (.oth (.ro i (r+1) hi z))) h n).sat Φ:=hs
 by_cases hx:∃ x,A s x
 ·obtain ⟨x,hx⟩:=hx
  have hr:=hA s x hx
  rw [hv] at hr
  simp only [AD] at hr
  obtain ⟨b,o,len,cap,ce,el,fr,rfl,h1,h2,h3⟩:=hr
  by_cases hl:len≤r
  ·refine ⟨_,_,_,φ,two.1,g,fun q y hy=>?_⟩
   by_cases e:s=q
   ·subst e
    rw [S.get_put_same,hfun s y _ hy hx]
    simp only [AD]
    exact ⟨b,o,len,cap,ce,el,fr,rfl,h1,hl,h3⟩
   ·rw [S.get_put_ne t _ e]; exact hA q y hy
  ·refine ⟨_,_,_,φ,two.2,g,fun q y hy=>?_⟩
   by_cases e:s=q
   ·subst e
    rw [S.get_put_same,hfun s y _ hy hx]
    simp only [AD]
    exact ⟨b,o,len,cap,ce,el,fr,rfl,by omega,h2,h3⟩
   ·rw [S.get_put_ne t _ e]; exact hA q y hy
 ·refine ⟨_,_,_,φ,two.1,g,fun q y hy=>?_⟩
  by_cases e:s=q
  ·subst e; exact absurd ⟨y,hy⟩ hx
  ·rw [S.get_put_ne t _ e]; exact hA q y hy
def RP (q m t:Nat):Nat:=Nat.add 36893488147419103233 (Nat.add (Nat.mul (Nat.add (Nat.mul q 65536) m) 65536) t)
def W8 (m:Nat) (κ:Nat->R) (k:Nat):R:=@Nat.rec (fun _=>R) (.fail "") (fun k ih=>@Nat.rec (fun _=>R) (κ 1) (fun k' _=>.both (Ah (Nat.succ (Nat.succ k')) κ) ih) k) k
theorem Q5 {m:Nat} {κ:Nat->R} {Φ:R->Prop}:∀ {k:Nat},(W8 m κ k).sat Φ->∀ t,1≤t->t≤k->(κ t).sat Φ
 | 0,h,t,h1,h2=>by omega
 | 1,h,t,h1,h2=>by
  obtain rfl:t=1:=by omega
  exact h
 | k+2,h,t,h1,h2=>by
  have h:(Ah (k+2) κ).sat Φ∧(W8 m κ (k+1)).sat Φ:=h
  rw [Af] at h
  by_cases e:t=k+2
  ·subst e; exact h.1
  ·exact Q5 h.2 t h1 (by omega)
abbrev US (s:SL) (mx:Nat):Ii:=fun t h n κ=>O9 (S.get s t) (κ t h n) fun i lo hi z=>br (Nat.ble 36893488147419103232 i) (br (Nat.ble i 73786976294838206463) (br (Nat.ble hi mx) (κ (S.put s t (.oth (.ro 36893488147419103232 0 mx z))) h n) (κ t h n)) (κ t h n)) (κ t h n)
abbrev UK (s c:SL) (m:Nat):Ii:=fun t h n κ=>O9 (S.get s t) (κ t h n) fun i lo hi z=>Gb (S.get c t) (κ t h n) fun r =>
 br (Nat.ble 36893488147419103232 i) (br (Nat.ble i 73786976294838206463) (br (Nat.ble r 1000000) (br (Nat.ble (Nat.succ r) lo) (W8 m (fun q=>Ah (RP r m q) fun i=>κ (S.put s t (.oth (.ro i lo hi z))) h n) (Nat.sub (Nat.mul 2 m) 1)) (κ t h n)) (κ t h n)) (κ t h n)) (κ t h n)
theorem Pf {ρ:Env} {i j:Nat} {y:Value} (h1:36893488147419103232≤i) (h2:i≤73786976294838206463) (h:KM ρ i j y):∃ r,r<Mk .i64∧y = .int .i64 (BE .i64 r):=by
 rcases h with ⟨h,_⟩ | ⟨_,h,_⟩ | ⟨_,h,_⟩ | ⟨_,_,r,hr,e,_⟩ | ⟨h,_⟩
 ·omega
 ·omega
 ·omega
 ·exact ⟨r,hr,e⟩
 ·omega
theorem Sx (s:SL) (mx:Nat):Eu (US s mx):=fun {t h n κ Φ} hs ρ B φ w A hfun g hA=>by
 have same:(κ t h n).sat Φ->∃ t2 h2 n2 φ2,(κ t2 h2 n2).sat Φ∧Gam ρ B h2 n2 φ2 w ∧ ∀ s x,A s x->AD ρ φ2 (S.get s t2) x:=fun hs=>⟨t,h,n,φ,hs,g,hA⟩
 obtain ⟨F,hF⟩:∃ F:Nat->Nat->Nat->Nat->R,F=fun i lo hi z=>br (Nat.ble 36893488147419103232 i) (br (Nat.ble i 73786976294838206463) (br (Nat.ble hi mx) (κ (S.put s t (.oth (.ro 36893488147419103232 0 mx z))) h n) (κ t h n)) (κ t h n)) (κ t h n):=⟨_,rfl⟩
 have hs:(O9 (S.get s t) (κ t h n) F).sat Φ:=by rw [hF]; exact hs
 rcases Ka (S.get s t) (κ t h n) F with e | ⟨i,lo,hi,z,hv,e⟩
 ·exact same (by rw [←e]; exact hs)
 rw [e,hF] at hs
 have hs:(br (Nat.ble 36893488147419103232 i) (br (Nat.ble i 73786976294838206463) (br (Nat.ble hi mx) (κ (S.put s t (.oth (.ro 36893488147419103232 0 mx z))) h n) (κ t h n)) (κ t h n)) (κ t h n)).sat Φ:=hs
 cases h1:Nat.ble 36893488147419103232 i with
 | false=>rw [h1] at hs; exact same hs
 | true =>
  rw [h1,AI] at hs
  cases h2:Nat.ble i 73786976294838206463 with
  | false=>rw [h2] at hs; exact same hs
  | true =>
   rw [h2,AI] at hs
   cases h3:Nat.ble hi mx with
   | false=>rw [h3] at hs; exact same hs
   | true =>
    rw [h3,AI] at hs
    have h1:=Nat.le_of_ble_eq_true h1
    have h2:=Nat.le_of_ble_eq_true h2
    refine ⟨_,_,_,φ,hs,g,fun q x hx=>?_⟩
    by_cases e:s=q
    ·subst e
     have hr:=hA s x hx
     rw [hv] at hr
     rw [S.get_put_same]
     simp only [AD] at hr ⊢
     obtain ⟨b,o,len,cap,c,el,fr,rfl,g1,g2,g3,g4,g5⟩:=hr
     refine ⟨b,o,len,cap,c,el,fr,rfl,Nat.zero_le _,Nat.le_trans g2 (Nat.le_of_ble_eq_true h3),g3,g4,fun j hj=>?_⟩
     obtain ⟨y,y1,y2⟩:=g5 j hj
     obtain ⟨r,hr,rfl⟩:=Pf h1 h2 y2
     exact ⟨_,y1,.inr (.inr (.inr (.inl ⟨Nat.le_refl _,by decide,r,hr,rfl,fun h=>absurd h (Nat.lt_irrefl _)⟩)))⟩
    ·rw [S.get_put_ne t _ e]; exact hA q x hx
theorem Sa (s c:SL) {m:Nat} (hm1:1≤m) (hm2:m<32768):Eu (UK s c m):=fun {t h n κ Φ} hs ρ B φ w A hfun g hA=>by
 have same:(κ t h n).sat Φ->∃ t2 h2 n2 φ2,(κ t2 h2 n2).sat Φ∧Gam ρ B h2 n2 φ2 w ∧ ∀ s x,A s x->AD ρ φ2 (S.get s t2) x:=fun hs=>⟨t,h,n,φ,hs,g,hA⟩
 obtain ⟨G,hG⟩:∃ G:Nat->Nat->Nat->Nat->Nat->R,G=fun i lo hi z r=>br (Nat.ble 36893488147419103232 i) (br (Nat.ble i 73786976294838206463) (br (Nat.ble r 1000000) (br (Nat.ble (Nat.succ r) lo) (W8 m (fun q=>Ah (RP r m q) fun i=>κ (S.put s t (.oth (.ro i lo hi z))) h n) (Nat.sub (Nat.mul 2 m) 1)) (κ t h n)) (κ t h n)) (κ t h n)) (κ t h n):=⟨_,rfl⟩
 have hs:(O9 (S.get s t) (κ t h n) fun i lo hi z=>Gb (S.get c t) (κ t h n) fun r=>G i lo hi z r).sat Φ:=by rw [hG]; exact hs
 rcases Ka (S.get s t) (κ t h n) (fun i lo hi z=>Gb (S.get c t) (κ t h n) fun r=>G i lo hi z r) with e | ⟨i,lo,hi,z,hv,e⟩
 ·exact same (by rw [←e]; exact hs)
 rw [e] at hs
 have hs:(Gb (S.get c t) (κ t h n) fun r=>G i lo hi z r).sat Φ:=hs
 rcases Ky (S.get c t) (κ t h n) (fun r=>G i lo hi z r) with e | ⟨r,hc,e⟩
 ·rw [e] at hs; exact same hs
 rw [e,hG] at hs
 have hs:(br (Nat.ble 36893488147419103232 i) (br (Nat.ble i 73786976294838206463) (br (Nat.ble r 1000000) (br (Nat.ble (Nat.succ r) lo) (W8 m (fun q=>Ah (RP r m q) fun i=>κ (S.put s t (.oth (.ro i lo hi z))) h n) (Nat.sub (Nat.mul 2 m) 1)) (κ t h n)) (κ t h n)) (κ t h n)) (κ t h n)).sat Φ:=hs
 cases h1:Nat.ble 36893488147419103232 i with
 | false=>rw [h1] at hs; exact same hs
 | true =>
  rw [h1,AI] at hs
  cases h2:Nat.ble i 73786976294838206463 with
  | false=>rw [h2] at hs; exact same hs
  | true =>
   rw [h2,AI] at hs
   cases h3:Nat.ble r 1000000 with
   | false=>rw [h3] at hs; exact same hs
   | true =>
    rw [h3,AI] at hs
    cases h4:Nat.ble (Nat.succ r) lo with
    | false=>rw [h4] at hs; exact same hs
    | true =>
     rw [h4,AI] at hs
     have h1:=Nat.le_of_ble_eq_true h1
     have h2:=Nat.le_of_ble_eq_true h2
     have h3:=Nat.le_of_ble_eq_true h3
     have h4:r+1≤lo:=Nat.le_of_ble_eq_true h4
     have ways:∀ q,1≤q->q≤2*m - 1->(κ (S.put s t (.oth (.ro (RP r m q) lo hi z))) h n).sat Φ:=fun q q1 q2=>by
      have:=Q5 hs q q1 q2
      rwa [Af] at this
     by_cases hx:∃ x,A s x
     ·obtain ⟨x,hx⟩:=hx
      have hr:=hA s x hx
      rw [hv] at hr
      simp only [AD] at hr
      obtain ⟨b,o,len,cap,ce,el,fr,rfl,g1,g2,g3,g4,g5⟩:=hr
      -- the way that is taken
      obtain ⟨q,q1,q2,hq⟩:∃ q,1≤q∧q≤2*m - 1 ∧ ∀ y,ce[o+r]? = some y->r<len*z->∃ r',r'<Mk .i64∧y = .int .i64 (BE .i64 r')∧(BE .i64 r').tmod (m:Nat)+(m:Nat)=(q:Nat):=by
       by_cases hl:r<len*z
       ·obtain ⟨y,y1,y2⟩:=g5 r hl
        obtain ⟨r',hr',rfl⟩:=Pf h1 h2 y2
        have ha:((BE .i64 r').tmod (m:Nat)).natAbs<m:=by
         rw [Int.natAbs_tmod,Int.natAbs_natCast]; exact Nat.mod_lt _ (by omega)
        refine ⟨((BE .i64 r').tmod (m:Nat)+(m:Nat)).toNat,by omega,by omega,fun y hy _=>?_⟩
        rw [y1] at hy; cases hy
        exact ⟨r',hr',rfl,by omega⟩
       ·exact ⟨1,Nat.le_refl _,by omega,fun y _ h=>absurd h hl⟩
      refine ⟨_,_,_,φ,ways q q1 q2,g,fun p y hy=>?_⟩
      by_cases e:s=p
      ·subst e
       rw [S.get_put_same,hfun s y _ hy hx]
       simp only [AD]
       refine ⟨b,o,len,cap,ce,el,fr,rfl,g1,g2,g3,g4,fun j hj=>?_⟩
       obtain ⟨y,y1,y2⟩:=g5 j hj
       obtain ⟨r',hr',rfl⟩:=Pf h1 h2 y2
       have ei:RP r m q=36893488147419103233+((r*65536+m)*65536+q):=rfl
       have eQ:VS (RP r m q)=r:=by show (RP r m q - 36893488147419103233) / 4294967296=r; rw [ei]; omega
       have eM:Hv (RP r m q)=m:=by show (RP r m q - 36893488147419103233) / 65536 % 65536=m; rw [ei]; omega
       have eT:OZ (RP r m q)=q:=by show (RP r m q - 36893488147419103233) % 65536=q; rw [ei]; omega
       refine ⟨_,y1,.inr (.inr (.inr (.inl ⟨by rw [ei]; omega,by rw [ei]; omega,r',hr',rfl,fun _ hj'=>?_⟩)))⟩
       rw [eQ] at hj'
       subst hj'
       obtain ⟨r2,_,e2,e3⟩:=hq _ y1 hj
       rw [eM,eT]
       have:=Value.int.inj e2
       rw [this.2]; exact e3
      ·rw [S.get_put_ne t _ e]; exact hA p y hy
     ·refine ⟨_,_,_,φ,ways 1 (Nat.le_refl _) (by omega),g,fun q y hy=>?_⟩
      by_cases e:s=q
      ·subst e; exact absurd ⟨y,hy⟩ hx
      ·rw [S.get_put_ne t _ e]; exact hA q y hy
theorem In {a b:Ii} (ha:Eu a) (hb:Eu b):Eu (MR a b):=fun {t h n κ Φ} hs ρ B φ w A hfun g hA=>by
 obtain ⟨t2,h2,n2,φ2,s2,g2,r2⟩:=ha (κ:=fun t h n=>b t h n κ) hs ρ B φ w A hfun g hA
 exact hb s2 ρ B φ2 w A hfun g2 r2
end Go.Ev
