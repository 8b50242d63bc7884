/- AN EVALUATOR OF THE MODEL OF Go, PROVED SOUND, PART 4: what it says of a call holds in every world, on every tape. Conditions: none of its own; each theorem bears its premises. -/
import Derived.Test.YtnacbbemgocmcaaGreatDoorQEv3
import Derived.Shelf.SortM.Plain
import Derived.Shelf.SortM.SortNone
import Derived.Shelf.Strconv.Itoa1
import Derived.Shelf.Strings.OnBuilder
import Derived.Sort.KeysCollected
import GoSem.ClaimGoes
noncomputable section
set_option linter.unusedSimpArgs false
set_option linter.unusedVariables false
namespace Go.Ev
set_option linter.unusedVariables false
def WQ (v:V):List K4->List K4 :=
 @V.rec (fun _=>List K4->List K4) (fun _=>List K4->List K4)
  (fun _ _ a=>a) (fun _ a=>a) (fun p _ a=>p::a) (fun p _ _ _ _ _ a=>p::a) (fun _ _ a=>a) (fun _ ih a=>ih a) (fun _ a=>a) (fun p a=>p::a) (fun _ _ ih a=>ih a) (fun _ ih a=>ih a) (fun _ a=>a)
  (fun a=>a) (fun _ _ ihx ihl a=>ihx (ihl a)) v
def UQ (l:List V) (a:List K4):List K4:=@List.rec V (fun _=>List K4) a (fun v _ ih=>WQ v ih) l
def Zv (es:List (V×V)) (a:List K4):List K4:=@List.rec (V×V) (fun _=>List K4) a (fun e _ ih=>@Prod.rec V V (fun _=>List K4) (fun x y=>WQ x (WQ y ih)) e) es
def UA (o:Ob) (a:List K4):List K4 :=
 @Ob.rec (fun _=>List K4) (fun cs _ _=>@Cs.rec (fun _=>List K4) (fun xs=>UQ xs a) (fun _ _=>a) cs) (fun es _ _=>Zv es a) (fun _ _ _ _=>a) a (fun _ _=>a) o
def Hi (o:Ob):Bool:=@Ob.rec (fun _=>Bool) (fun _ sup _=>@Bool.rec (fun _=>Bool) true false sup) (fun _ _ _=>true) (fun _ _ _ _=>false) false (fun _ _=>false) o
def Oc (o:Ob):Ob:=@Ob.rec (fun _=>Ob) (fun cs sup _=>.c cs sup none) (fun es bs c=>.m es bs c) (fun p s l c=>.it p s l c) .it0 (fun f b=>.lp f b) o
theorem MY (o:Ob):BX (Oc o)=none:=by cases o <;> rfl
theorem Ru {ρ:Env} {φ:Ba} {w:World} {o:Ob} {b s tot:Nat} (h:Gl ρ φ w o b s tot):Gl ρ φ w (Oc o) b s tot:=by cases o <;> exact h
def DT (h:Heap) (k:Nat):List K4->Heap->List K4->(Heap->List K4->R)->R :=
 @Nat.rec (fun _=>List K4->Heap->List K4->(Heap->List K4->R)->R) (fun _ hs acc κ=>κ hs acc)
  (fun _ ih todo hs acc κ=>@List.rec K4 (fun _=>R) (κ hs acc) (fun p todo _=>Bu p hs fun o=>@Option.rec Ob (fun _=>R)
   (Bu p h fun o=>@Option.rec Ob (fun _=>R) (ih todo hs acc κ) (fun ob=>br (Hi ob) (Bx p hs (some (Oc ob)) fun hs=>ih (UA ob todo) hs (p::acc) κ) (ih todo hs acc κ)) o)
   (fun _=>ih todo hs acc κ) o) todo) k
def Ie (p n:K4):Bool:=Nat.ble (Nat.succ p.toN) n.toN
def EN (n:K4) (v:V):Bool :=
 @V.rec (fun _=>Bool) (fun _=>Bool)
  (fun _ _=>true) (fun _=>true) (fun p _=>Ie p n) (fun p _ _ _ _ _=>Ie p n) (fun _ _=>true) (fun _ ih=>ih) (fun _=>true) (fun p=>Ie p n) (fun _ _ ih=>ih) (fun _ ih=>ih) (fun o=>@Ot.rec (fun _=>Bool) true (fun _=>true) (fun p=>Ie p n) false (fun _ _ _=>true) (fun _ _=>true) true (fun _ _=>true) (fun _ _ _ _=>true) (fun _ _ _ _=>true) (fun _ _ _=>true) (fun _ _=>true) o)
  true (fun _ _ ihx ihl=>br ihx ihl false) v
def KG (n:K4) (l:List V):Bool:=EN n (.tup l)
def LI (p:Option K4) (κ:R):R:=@Option.rec K4 (fun _=>R) κ (Bb "") p
def PX (n:K4) (a b:Cs) (κ:R):R :=
 @Cs.rec (fun _=>R) (fun xs=>@Cs.rec (fun _=>R) (fun ys=>br (KG n xs) (AF (.tup xs) (.tup ys) κ) (.fail "")) (AT "") b)
  (fun m c=>@Cs.rec (fun _=>R) (Bb "") (fun m' c'=>br (Nat.beq m m') (br (Nat.beq c c') κ (.fail "")) (.fail "")) b) a
def KH (n:K4) (a:List (V×V)):List (V×V)->R->R :=
 @List.rec (V×V) (fun _=>List (V×V)->R->R) (fun b κ=>@List.rec (V×V) (fun _=>R) κ (C4 "") b)
  (fun e _ ih b κ=>@List.rec (V×V) (fun _=>R) (.fail "") (fun e' b _=>@Prod.rec V V (fun _=>R) (fun x y=>@Prod.rec V V (fun _=>R) (fun x' y'=>br (EN n x) (br (EN n y) (AF x x' (AF y y' (ih b κ))) (.fail "")) (.fail "")) e') e) b) a
def Lu (a:List Nat):List Nat->R->R :=
 @List.rec Nat (fun _=>List Nat->R->R) (fun b κ=>@List.rec Nat (fun _=>R) κ (C4 "") b)
  (fun x _ ih b κ=>@List.rec Nat (fun _=>R) (.fail "") (fun y b _=>br (Nat.beq x y) (ih b κ) (.fail "")) b) a
def Re (n:K4) (a b:Ob) (κ:R):R :=
 @Ob.rec (fun _=>R) (fun cs sup prev=>br sup (.fail "") (LI prev (@Ob.rec (fun _=>R) (fun cs' sup' prev'=>br sup' (.fail "") (LI prev' (PX n cs cs' κ))) (C4 "") (FQ "") (.fail "") (AT "") b)))
  (fun es bs c=>@Ob.rec (fun _=>R) (C4 "") (fun es' bs' c'=>br (Nat.beq c c') (Lu bs bs' (KH n es es' κ)) (.fail "")) (FQ "") (.fail "") (AT "") b) (FQ "") (.fail "") (AT "") a
def Hf (n:K4) (a b:Cu) (κ:R):R :=
 @Option.rec Ob (fun _=>R) (@Option.rec Ob (fun _=>R) κ (Bb "") b) (fun x=>@Option.rec Ob (fun _=>R) (.fail "") (fun y=>Re n x y κ) b) a
def FH (n:K4) (h1 h':Heap) (acc:List K4) (κ:R):R :=
 @List.rec K4 (fun _=>R) κ (fun p _ ih=>Bu p h1 fun a=>Bu p h' fun b=>Hf n a b ih) acc
def Yg (n:K4) (p:Option K4):Option K4:=@Option.rec K4 (fun _=>Option K4) none (fun q=>@Bool.rec (fun _=>Option K4) none (some q) (Ie q n)) p
def JF (n:K4) (o:Cu):Cu:=@Option.rec Ob (fun _=>Cu) none (fun o=>some (@Ob.rec (fun _=>Ob) (fun cs sup prev=>.c cs sup (Yg n prev)) (fun es bs c=>.m es bs c) (fun p s l c=>.it p s l c) .it0 (fun f b=>.lp f b) o)) o
def HG (n:K4) (v1:V) (h1:Heap) (v':V) (h':Heap) (κ:R):R :=
 br (EN n v1) (AF v1 v' κ) (CK v1 (.fail "") fun p off len cap ex esz=>CK v' (.fail "") fun p' off' len' cap' ex' esz' =>
  br (Ie p n) (.fail "") (br (Ie p' n) (.fail "") (AF (.sl p off len cap ex esz) (.sl p off' len' cap' ex' esz') (Bu p h1 fun a=>Bu p' h' fun b=>Hf n (JF n a) (JF n b) κ))))
def Qy (r:R):(V->Heap->R)->R :=
 @R.rec (fun _=>(V->Heap->R)->R) (fF5 "") (fun v h _ κ=>κ v h) (fun w _=>.fail w) (fun _ _ iha _ κ=>iha κ) r
def Uf (a b:K4) (κ:K4->R):R:=br (Nat.ble a.toN b.toN) (κ b) (κ a)
def UC (n:K4) (v1:V) (h1:Heap) (acc:List K4) (r:R):K4->(K4->R)->R :=
 @R.rec (fun _=>K4->(K4->R)->R) (DQ "") (fun v h m mx κ=>HG n v1 h1 v h (FH n h1 h acc (Uf m mx κ))) (fun w _ _=>.fail w) (fun _ _ iha ihb mx κ=>iha mx fun mx=>ihb mx κ) r
def Rh (o:Ob) (h:Heap) (κ:Heap->R):R:=@Ob.rec (fun _=>R) (fun _ _ prev=>@Option.rec K4 (fun _=>R) (κ h) (fun q=>Bx q h none κ) prev) (fun _ _ _=>κ h) (fun _ _ _ _=>κ h) (κ h) (fun _ _=>κ h) o
def LW (h h1:Heap) (acc:List K4):(Heap->R)->R :=
 @List.rec K4 (fun _=>(Heap->R)->R) (fun κ=>κ h)
  (fun p _ ih κ=>ih fun hf=>Bu p h fun o=>@Option.rec Ob (fun _=>R) (.fail "") (fun o=>Rh o hf fun hf=>Bu p h1 fun o1=>Bx p hf o1 κ) o) acc
def UU (n:K4) (v1:V) (h1 hf:Heap) (m:K4):R :=
 br (EN n v1) (.rv v1 hf m) (CK v1 (.fail "") fun p off len cap ex esz=>Bu p h1 fun o=>@Option.rec Ob (fun _=>R) (.fail "") (fun ob=>Bx m hf (some ob) fun hf=>m.nx fun m'=>.rv (.sl m off len cap ex esz) hf m') (JF n o))
def WR (n:K4) (h:Heap) (acc:List K4) (r:R):R :=
 Qy r fun v1 h1=>UC n v1 h1 acc r n fun m=>LW h h1 acc fun hf=>UU n v1 h1 hf m
def Zi (k:Nat) (run:Heap->R) (args:List V) (h:Heap) (n:K4):R :=
 DT h k (UQ args []) AS [] fun hs acc=>WR n h acc (run hs)
section
variable {P:Program} {ρ:Env} {B:Nat}
structure Sub (h hs:Heap) (acc:List K4):Prop where
 sub:∀ p o,Ar p hs=some o->∃ o0,Ar p h=some o0∧o=Oc o0∧Hi o0=true∧p∈acc
 has:∀ p,p∈acc->∃ o,Ar p hs=some o
theorem Sub.mem {h hs:Heap} {acc:List K4} (s:Sub h hs acc) {p:K4} {o:Ob} (hp:Ar p hs=some o):p∈acc:=by
 obtain ⟨_,_,_,_,m⟩:=s.sub p o hp; exact m
theorem Sub.in_h {h hs:Heap} {acc:List K4} (s:Sub h hs acc) {p:K4} {o:Ob} (hp:Ar p hs=some o):∃ o0,Ar p h=some o0:=by
 obtain ⟨o0,e,_⟩:=s.sub p o hp; exact ⟨o0,e⟩
theorem EY {h:Heap}:∀ (k:Nat) {todo:List K4} {hs:Heap} {acc:List K4} {κ:Heap->List K4->R},Sub h hs acc->∃ hs' acc',Sub h hs' acc'∧DT h k todo hs acc κ=κ hs' acc'
 | 0,todo,hs,acc,κ,s=>⟨hs,acc,s,rfl⟩
 | k+1,[],hs,acc,κ,s=>⟨hs,acc,s,rfl⟩
 | k+1,p::todo,hs,acc,κ,s=>by
  have e:DT h (k+1) (p::todo) hs acc κ=Bu p hs fun o=>@Option.rec Ob (fun _=>R)
   (Bu p h fun o=>@Option.rec Ob (fun _=>R) (DT h k todo hs acc κ) (fun ob=>br (Hi ob) (Bx p hs (some (Oc ob)) fun hs=>DT h k (UA ob todo) hs (p::acc) κ) (DT h k todo hs acc κ)) o)
   (fun _=>DT h k todo hs acc κ) o:=rfl
  rw [e,Bz]
  cases h1:Ar p hs with
  | some o=>exact EY k s
  | none =>
   show ∃ hs' acc',Sub h hs' acc'∧(Bu p h fun o=>@Option.rec Ob (fun _=>R) (DT h k todo hs acc κ) (fun ob=>br (Hi ob) (Bx p hs (some (Oc ob)) fun hs=>DT h k (UA ob todo) hs (p::acc) κ) (DT h k todo hs acc κ)) o)=κ hs' acc'
   rw [Bz]
   cases h2:Ar p h with
   | none=>exact EY k s
   | some ob =>
    show ∃ hs' acc',Sub h hs' acc'∧br (Hi ob) (Bx p hs (some (Oc ob)) fun hs=>DT h k (UA ob todo) hs (p::acc) κ) (DT h k todo hs acc κ)=κ hs' acc'
    cases h3:Hi ob with
    | false=>exact EY k s
    | true =>
     show ∃ hs' acc',Sub h hs' acc'∧(Bx p hs (some (Oc ob)) fun hs=>DT h k (UA ob todo) hs (p::acc) κ)=κ hs' acc'
     rw [C0,Bm]
     refine EY k ⟨fun q o hq=>?_,fun q hq=>?_⟩
     ·rcases BG hq with ⟨rfl,e⟩ | ⟨hne,hq⟩
      ·cases e; exact ⟨ob,h2,rfl,h3,List.mem_cons_self ..⟩
      ·obtain ⟨o0,a,e,b,c⟩:=s.sub q o hq; exact ⟨o0,a,e,b,List.mem_cons_of_mem _ c⟩
     ·by_cases e:p=q
      ·subst e; exact ⟨Oc ob,Am _ _ _⟩
      ·rw [Ah _ _ e]
       rcases List.mem_cons.1 hq with e' | hq
       ·exact absurd e'.symm e
       ·exact s.has q hq
theorem Sub.nil {h:Heap}:Sub h AS []:=⟨fun p o hp=>(by rw [Ey] at hp; cases hp),fun p hp=>(by simp at hp)⟩
theorem Cq {p n:K4}:Ie p n=true ↔ p.toN<n.toN:=by unfold Ie; rw [Ao]; omega
mutual
theorem EW {n:K4} {φ1 φ2:Ba} (hφ:∀ p x,p.toN<n.toN->φ1 p=some x->φ2 p=some x):∀ {v:V} {x:Value},EN n v=true->AL ρ φ1 v x->AL ρ φ2 v x
 | .int _ _,_,_,r=>by simpa only [AL] using r
 | .bool _,_,_,r=>by simpa only [AL] using r
 | .ptr p _,_,ho,r=>by
  have ho:Ie p n=true:=ho
  simp only [AL] at r ⊢
  obtain ⟨b,s,tot,hp,e⟩:=r
  exact ⟨b,s,tot,hφ _ _ (Cq.1 ho) hp,e⟩
 | .sl p _ _ _ _ _,_,ho,r=>by
  have ho:Ie p n=true:=ho
  simp only [AL] at r ⊢
  obtain ⟨b,s,tot,o,c,hp,e⟩:=r
  exact ⟨b,s,tot,o,c,hφ _ _ (Cq.1 ho) hp,e⟩
 | .str _ _,_,_,r=>by simpa only [AL] using r
 | .agg l,_,ho,r=>by
  have ho:KG n l=true:=ho
  simp only [AL] at r ⊢
  obtain ⟨cs,e,hl,hh⟩:=r
  exact ⟨cs,e,Gp hφ ho hl,hh⟩
 | .nil _,_,_,r=>by simpa only [AL] using r
 | .map p,_,ho,r=>by
  have ho:Ie p n=true:=ho
  simp only [AL] at r ⊢
  obtain ⟨b,s,tot,hp,e⟩:=r
  exact ⟨b,s,tot,hφ _ _ (Cq.1 ho) hp,e⟩
 | .fn _ l,_,ho,r=>by
  have ho:KG n l=true:=ho
  simp only [AL] at r ⊢
  obtain ⟨cs,e,hl⟩:=r
  exact ⟨cs,e,Gp hφ ho hl⟩
 | .tup l,_,ho,r=>by
  have ho:KG n l=true:=ho
  simp only [AL] at r ⊢
  obtain ⟨cs,e,hl⟩:=r
  exact ⟨cs,e,Gp hφ ho hl⟩
 | .oth o,_,ho,r=>by
  cases o with
  | yl p =>
   have ho:Ie p n=true:=ho
   simp only [AL] at r ⊢
   obtain ⟨b,s,tot,hp,e⟩:=r
   exact ⟨b,s,tot,hφ _ _ (Cq.1 ho) hp,e⟩
  | _=>simp only [AL] at r ⊢ <;> exact r
theorem Gp {n:K4} {φ1 φ2:Ba} (hφ:∀ p x,p.toN<n.toN->φ1 p=some x->φ2 p=some x):∀ {l:List V} {xs:List Value},KG n l=true->BC ρ φ1 l xs->BC ρ φ2 l xs
 | [],_,_,r=>by simpa only [BC] using r
 | v::l,_,ho,r=>by
  have ho:br (EN n v) (KG n l) false=true:=ho
  simp only [BC] at r ⊢
  obtain ⟨y,ys,e,hy,hys⟩:=r
  cases h1:EN n v with
  | false=>rw [h1] at ho; cases ho
  | true =>
   rw [h1] at ho
   exact ⟨y,ys,e,EW hφ h1 hy,Gp hφ ho hys⟩
end
theorem PQ {n:K4}:∀ {l:List V},KG n l=true->∀ v∈l,EN n v=true
 | [],_,v,hv=>by simp at hv
 | x::l,ho,v,hv=>by
  have ho:br (EN n x) (KG n l) false=true:=ho
  cases h1:EN n x with
  | false=>rw [h1] at ho; cases ho
  | true =>
   rw [h1] at ho
   rcases List.mem_cons.1 hv with e | hv
   ·subst e; exact h1
   ·exact PQ (show KG n l=true from ho) v hv
def Jq (n:K4):Ob->Prop
 | .c (.l xs) sup prev=>KG n xs=true∧sup=false∧prev=none
 | .c (.b _ _) sup prev=>sup=false∧prev=none
 | .m es _ _=>∀ e∈es,EN n e.1=true∧EN n e.2=true
 | _=>False
theorem Jq.prev {n:K4} {o:Ob} (h:Jq n o):BX o=none:=by
 cases o with
 | c cs sup prev=>cases cs with
  | l xs=>exact h.2.2
  | b m c=>exact h.2
 | m es bs c=>rfl
 | it _ _ _ _=>exact h.elim
 | it0=>exact h.elim
 | lp _ _=>exact h.elim
theorem Jq.sup {n:K4} {o:Ob} (h:Jq n o):J4 o=false:=by
 cases o with
 | c cs sup prev=>cases cs with
  | l xs=>exact h.2.1
  | b m c=>exact h.1
 | m es bs c=>rfl
 | it _ _ _ _=>exact h.elim
 | it0=>exact h.elim
 | lp _ _=>exact h.elim
theorem SJ {n:K4} {o:Cu} {ob:Ob} (h:JF n o=some ob):∃ obr,o=some obr∧(BX ob=none->∀ q,BX obr=some q->n.toN≤q.toN) ∧ ∀ {φ:Ba} {w:World} {b s tot:Nat},Gl ρ φ w obr b s tot->Gl ρ φ w ob b s tot:=by
 cases o with
 | none=>cases h
 | some obr =>
  refine ⟨obr,rfl,?_⟩
  cases obr with
  | c cs sup prev =>
   have h:some (Ob.c cs sup (Yg n prev))=some ob:=h
   cases h
   refine ⟨fun hp q hq=>?_,fun k=>k⟩
   have hq:prev=some q:=hq
   subst hq
   have hp:@Bool.rec (fun _=>Option K4) none (some q) (Ie q n)=none:=hp
   cases hl:Ie q n with
   | true=>rw [hl] at hp; cases hp
   | false =>
    rcases Nat.lt_or_ge q.toN n.toN with h | h
    ·rw [Cq.2 h] at hl; cases hl
    ·exact h
  | m _ _ _=>cases h; exact ⟨fun _ q hq=>(by cases hq),fun k=>k⟩
  | it _ _ _ _=>cases h; exact ⟨fun _ q hq=>(by cases hq),fun k=>k⟩
  | it0=>cases h; exact ⟨fun _ q hq=>(by cases hq),fun k=>k⟩
  | lp _ _=>cases h; exact ⟨fun _ q hq=>(by cases hq),fun k=>k⟩
theorem Lo {n:K4} {φ1 φ2:Ba} (hφ:∀ p x,p.toN<n.toN->φ1 p=some x->φ2 p=some x) {w:World} {o:Ob} {b s tot:Nat} (ho:Jq n o) (k:Gl ρ φ1 w o b s tot):Gl ρ φ2 w o b s tot:=by
 cases o with
 | c cs sup prev =>
  obtain ⟨c,e,fr,h1,h2,h3,h4,h5⟩:=k
  refine ⟨c,e,fr,h1,h2,h3,h4,fun i v hv=>?_⟩
  obtain ⟨x,k1,k2,k3⟩:=h5 i v hv
  refine ⟨x,k1,?_,k3⟩
  cases cs with
  | l xs=>exact EW hφ (PQ ho.1 v (List.mem_of_getElem? hv)) k2
  | b m c =>
   by_cases hi:i<m
   ·rw [Cs.b_pos hi] at hv; cases hv; exact EW hφ rfl k2
   ·rw [Cs.b_neg hi] at hv; cases hv
 | m es bs clk =>
  obtain ⟨ents,h1,h2,h3⟩:=k
  refine ⟨ents,h1,?_,h3⟩
  have ho':∀ e∈es,EN n e.1=true∧EN n e.2=true:=ho
  clear h1 h3 ho
  generalize ents.toList=l at h2
  induction es generalizing l with
  | nil=>exact h2
  | cons e es ih =>
   obtain ⟨y,ys,rfl,k1,k2,k3⟩:=h2
   obtain ⟨o1,o2⟩:=ho' e (List.mem_cons_self ..)
   exact ⟨y,ys,rfl,EW hφ o1 k1,EW hφ o2 k2,ih (fun e he=>ho' e (List.mem_cons_of_mem _ he)) _ k3⟩
 | it _ _ _ _=>exact ho.elim
 | it0=>exact ho.elim
 | lp _ _=>exact ho.elim
theorem KN {p:Option K4} {κ:R} (h:(LI p κ).good):p=none∧LI p κ=κ:=by
 cases p with
 | none=>exact ⟨rfl,rfl⟩
 | some q=>exact h.elim
theorem Ki:∀ {a b:List Nat} {κ:R},(Lu a b κ).good->a=b∧Lu a b κ=κ
 | [],[],κ,_=>⟨rfl,rfl⟩
 | [],_::_,κ,h=>h.elim
 | _::_,[],κ,h=>h.elim
 | x::a,y::b,κ,h=>by
  have h:R.good (br (Nat.beq x y) (Lu a b κ) (.fail "")):=h
  obtain ⟨h1,e1⟩:=Ak h
  rw [e1] at h
  obtain ⟨h2,e2⟩:=Ki h
  exact ⟨by rw [Nat.eq_of_beq_eq_true h1,h2],Eq.trans e1 e2⟩
theorem JV {n:K4}:∀ {a b:List (V×V)} {κ:R},(KH n a b κ).good->a=b∧(∀ e∈a,EN n e.1=true∧EN n e.2=true)∧KH n a b κ=κ
 | [],[],κ,_=>⟨rfl,fun e he=>by simp at he,rfl⟩
 | [],_::_,κ,h=>h.elim
 | _::_,[],κ,h=>h.elim
 | (x,y)::a,(x',y')::b,κ,h=>by
  have h:R.good (br (EN n x) (br (EN n y) (AF x x' (AF y y' (KH n a b κ))) (.fail "")) (.fail "")):=h
  obtain ⟨h1,e1⟩:=Ak h
  rw [e1] at h
  obtain ⟨h2,e2⟩:=Ak h
  rw [e2] at h
  obtain ⟨h3,e3⟩:=Ef h
  rw [e3] at h
  obtain ⟨h4,e4⟩:=Ef h
  rw [e4] at h
  obtain ⟨h5,h6,e5⟩:=JV h
  refine ⟨by rw [h3,h4,h5],fun e he=>?_,Eq.trans e1 (e2.trans (e3.trans (e4.trans e5)))⟩
  rcases List.mem_cons.1 he with e' | he
  ·subst e'; exact ⟨h1,h2⟩
  ·exact h6 e he
theorem QQ {n:K4} {a b:Ob} {κ:R} (h:(Re n a b κ).good):a=b∧Jq n a∧Re n a b κ=κ:=by
 cases a with
 | c cs sup prev =>
  have h0:R.good (br sup (.fail "") (LI prev (@Ob.rec (fun _=>R) (fun cs' sup' prev'=>br sup' (.fail "") (LI prev' (PX n cs cs' κ))) (C4 "") (FQ "") (.fail "") (AT "") b))):=h
  obtain ⟨h1,e1⟩:=Ga h0
  rw [e1] at h0
  obtain ⟨h2,e2⟩:=KN h0
  rw [e2] at h0
  cases b with
  | c cs' sup' prev' =>
   have h0:R.good (br sup' (.fail "") (LI prev' (PX n cs cs' κ))):=h0
   obtain ⟨h3,e3⟩:=Ga h0
   rw [e3] at h0
   obtain ⟨h4,e4⟩:=KN h0
   rw [e4] at h0
   subst h1 h2 h3 h4
   cases cs with
   | l xs=>cases cs' with
    | l ys =>
     have h0:R.good (br (KG n xs) (AF (.tup xs) (.tup ys) κ) (.fail "")):=h0
     obtain ⟨h5,e5⟩:=Ak h0
     rw [e5] at h0
     obtain ⟨h6,e6⟩:=Ef h0
     cases h6
     exact ⟨rfl,⟨h5,rfl,rfl⟩,Eq.trans e5 e6⟩
    | b m c=>exact h0.elim
   | b m c=>cases cs' with
    | l ys=>exact h0.elim
    | b m' c' =>
     have h0:R.good (br (Nat.beq m m') (br (Nat.beq c c') κ (.fail "")) (.fail "")):=h0
     obtain ⟨h5,e5⟩:=Ak h0
     rw [e5] at h0
     obtain ⟨h6,e6⟩:=Ak h0
     exact ⟨by rw [Nat.eq_of_beq_eq_true h5,Nat.eq_of_beq_eq_true h6],⟨rfl,rfl⟩,Eq.trans e5 e6⟩
  | m _ _ _=>exact h0.elim
  | it _ _ _ _=>exact h0.elim
  | it0=>exact h0.elim
  | lp _ _=>exact h0.elim
 | m es bs c=>cases b with
  | m es' bs' c' =>
   have h0:R.good (br (Nat.beq c c') (Lu bs bs' (KH n es es' κ)) (.fail "")):=h
   obtain ⟨h1,e1⟩:=Ak h0
   rw [e1] at h0
   obtain ⟨h2,e2⟩:=Ki h0
   rw [e2] at h0
   obtain ⟨h3,h4,e3⟩:=JV h0
   refine ⟨by rw [Nat.eq_of_beq_eq_true h1,h2,h3],h4,Eq.trans e1 (e2.trans e3)⟩
  | c _ _ _=>exact h.elim
  | it _ _ _ _=>exact h.elim
  | it0=>exact h.elim
  | lp _ _=>exact h.elim
 | it _ _ _ _=>exact h.elim
 | it0=>exact h.elim
 | lp _ _=>exact h.elim
theorem Kh {n:K4} {a b:Cu} {κ:R} (h:(Hf n a b κ).good):a=b∧(∀ o,a=some o->Jq n o)∧Hf n a b κ=κ:=by
 cases a with
 | none=>cases b with
  | none=>exact ⟨rfl,fun o h=>(by cases h),rfl⟩
  | some y=>exact h.elim
 | some x=>cases b with
  | none=>exact h.elim
  | some y =>
   obtain ⟨h1,h2,e⟩:=QQ (show R.good (Re n x y κ) from h)
   subst h1
   exact ⟨rfl,fun o h=>(by cases h; exact h2),e⟩
theorem Gs {n:K4} {h1 h':Heap}:∀ {acc:List K4} {κ:R},(FH n h1 h' acc κ).good->(∀ p∈acc,Ar p h1=Ar p h' ∧ ∀ o,Ar p h1=some o->Jq n o)∧FH n h1 h' acc κ=κ
 | [],κ,_=>⟨fun p hp=>by simp at hp,rfl⟩
 | q::acc,κ,h=>by
  have e0:FH n h1 h' (q::acc) κ=Hf n (Ar q h1) (Ar q h') (FH n h1 h' acc κ):=by
   show (Bu q h1 fun a=>Bu q h' fun b=>Hf n a b (FH n h1 h' acc κ))=_
   rw [Bz,Bz]
  rw [e0] at h
  obtain ⟨a1,a2,e1⟩:=Kh h
  rw [e1] at h
  obtain ⟨a3,e2⟩:=Gs h
  refine ⟨fun p hp=>?_,e0.trans (e1.trans e2)⟩
  rcases List.mem_cons.1 hp with e | hp
  ·subst e; exact ⟨a1,a2⟩
  ·exact a3 p hp
def Rz (n:K4) (v1:V) (h1:Heap) (v':V) (h':Heap):Prop :=
 (EN n v1=true∧v1=v')∨(EN n v1=false ∧ ∃ p p' off len cap ex esz,v1 = .sl p off len cap ex esz∧v' = .sl p' off len cap ex esz∧n.toN≤p.toN∧n.toN≤p'.toN∧JF n (Ar p h1)=JF n (Ar p' h') ∧ ∀ o,JF n (Ar p h1)=some o->Jq n o)
theorem IW {n:K4} {v1 v':V} {h1 h':Heap} {κ:R} (h:(HG n v1 h1 v' h' κ).good):Rz n v1 h1 v' h'∧HG n v1 h1 v' h' κ=κ:=by
 unfold HG at h ⊢
 cases ho:EN n v1 with
 | true =>
  rw [ho] at h
  obtain ⟨a,e⟩:=Ef (show R.good (AF v1 v' κ) from h)
  exact ⟨.inl ⟨ho,a⟩,e⟩
 | false =>
  rw [ho] at h
  have h:R.good (CK v1 (.fail "") fun p off len cap ex esz=>CK v' (.fail "") fun p' off' len' cap' ex' esz'=>br (Ie p n) (.fail "") (br (Ie p' n) (.fail "") (AF (.sl p off len cap ex esz) (.sl p off' len' cap' ex' esz') (Bu p h1 fun a=>Bu p' h' fun b=>Hf n (JF n a) (JF n b) κ)))):=h
  show Rz n v1 h1 v' h'∧(CK v1 (.fail "") fun p off len cap ex esz=>CK v' (.fail "") fun p' off' len' cap' ex' esz'=>br (Ie p n) (.fail "") (br (Ie p' n) (.fail "") (AF (.sl p off len cap ex esz) (.sl p off' len' cap' ex' esz') (Bu p h1 fun a=>Bu p' h' fun b=>Hf n (JF n a) (JF n b) κ))))=κ
  rcases C8 h with ⟨_,e1⟩ | ⟨p,off,len,cap,ex,esz,hv,e1⟩
  ·rw [e1] at h; exact h.elim
  rw [e1] at h ⊢
  rcases C8 h with ⟨_,e2⟩ | ⟨p',off',len',cap',ex',esz',hv',e2⟩
  ·rw [e2] at h; exact h.elim
  rw [e2] at h ⊢
  obtain ⟨a1,e3⟩:=Ga h
  rw [e3] at h ⊢
  obtain ⟨a2,e4⟩:=Ga h
  rw [e4] at h ⊢
  obtain ⟨a3,e5⟩:=Ef h
  rw [e5] at h ⊢
  rw [Bz,Bz] at h ⊢
  obtain ⟨a4,a5,e6⟩:=Kh h
  rw [e6]
  cases a3
  have n1:n.toN≤p.toN:=by
   rcases Nat.lt_or_ge p.toN n.toN with h | h
   ·rw [Cq.2 h] at a1; cases a1
   ·exact h
  have n2:n.toN≤p'.toN:=by
   rcases Nat.lt_or_ge p'.toN n.toN with h | h
   ·rw [Cq.2 h] at a2; cases a2
   ·exact h
  exact ⟨.inr ⟨ho,p,p',off,len,cap,ex,esz,hv,hv',n1,n2,a4,a5⟩,rfl⟩
theorem Sb (a b:K4) (κ:K4->R):∃ m:K4,Uf a b κ=κ m∧a.toN≤m.toN∧b.toN≤m.toN:=by
 unfold Uf
 cases h:Nat.ble a.toN b.toN with
 | true=>exact ⟨b,rfl,Ao.1 h,Nat.le_refl _⟩
 | false =>
  have:¬ a.toN≤b.toN:=fun h'=>by rw [Ao.2 h'] at h; cases h
  exact ⟨a,rfl,Nat.le_refl _,by omega⟩
def U8 (n:K4) (v1:V) (h1:Heap) (acc:List K4) (m:K4):R->Prop
 | .rv v h n'=>Rz n v1 h1 v h∧(∀ p∈acc,Ar p h1=Ar p h ∧ ∀ o,Ar p h1=some o->Jq n o)∧n'.toN≤m.toN
 | _=>False
theorem Jv {n:K4} {v1:V} {h1:Heap} {acc:List K4}:∀ {r:R} {mx:K4} {κ:K4->R},(UC n v1 h1 acc r mx κ).good->∃ m:K4,mx.toN≤m.toN∧r.sat (U8 n v1 h1 acc m)∧UC n v1 h1 acc r mx κ=κ m
 | .ok _ _ _ _,mx,κ,h=>h.elim
 | .fail _,mx,κ,h=>h.elim
 | .rv v h0 n',mx,κ,h=>by
  have h:R.good (HG n v1 h1 v h0 (FH n h1 h0 acc (Uf n' mx κ))):=h
  obtain ⟨a1,e1⟩:=IW h
  rw [e1] at h
  obtain ⟨a2,e2⟩:=Gs h
  rw [e2] at h
  obtain ⟨m,e3,l1,l2⟩:=Sb n' mx κ
  exact ⟨m,l2,⟨a1,a2,l1⟩,Eq.trans e1 (e2.trans e3)⟩
 | .both a b,mx,κ,h=>by
  have h:R.good (UC n v1 h1 acc a mx fun mx=>UC n v1 h1 acc b mx κ):=h
  obtain ⟨m1,l1,s1,e1⟩:=Jv h
  rw [e1] at h
  obtain ⟨m2,l2,s2,e2⟩:=Jv h
  refine ⟨m2,Nat.le_trans l1 l2,⟨R.sat_mono (fun r hr=>?_) s1,s2⟩,Eq.trans e1 e2⟩
  cases r with
  | rv v h0 n'=>exact ⟨hr.1,hr.2.1,Nat.le_trans hr.2.2 l2⟩
  | ok _ _ _ _=>exact hr
  | fail _=>exact hr
  | both _ _=>exact hr
theorem Kb:∀ {r:R} {κ:V->Heap->R},(Qy r κ).good->∃ v h,Qy r κ=κ v h
 | .ok _ _ _ _,κ,h=>h.elim
 | .fail _,κ,h=>h.elim
 | .rv v h0 n',κ,h=>⟨v,h0,rfl⟩
 | .both a b,κ,h=>Kb (r:=a) h
theorem TU (o:Ob) (h:Heap) (κ:Heap->R):Rh o h κ=κ (Ck (BX o) h):=by
 cases o with
 | c cs sup prev =>
  cases prev with
  | none=>rfl
  | some q=>show Bx q h none κ=_; rw [C0,Bm]; rfl
 | m _ _ _=>rfl
 | it _ _ _ _=>rfl
 | it0=>rfl
 | lp _ _=>rfl
structure PutOK (h h1:Heap) (acc:List K4) (hf:Heap):Prop where
 put:∀ q o,Ar q hf=some o->(q∈acc∧Ar q h1=some o)∨(q ∉ acc∧Ar q h=some o ∧ ∀ p∈acc,∀ op,Ar p h=some op->BX op≠some q)
theorem Im {h h1:Heap}:∀ {acc:List K4} {κ:Heap->R},(LW h h1 acc κ).good->∃ hf,PutOK h h1 acc hf∧LW h h1 acc κ=κ hf
 | [],κ,_=>⟨h,⟨fun q o hq=>.inr ⟨by simp,hq,fun p hp=>by simp at hp⟩⟩,rfl⟩
 | p::acc,κ,hg=>by
  have hg:R.good (LW h h1 acc fun hf=>Bu p h fun o=>@Option.rec Ob (fun _=>R) (.fail "") (fun o=>Rh o hf fun hf=>Bu p h1 fun o1=>Bx p hf o1 κ) o):=hg
  obtain ⟨hf,ok,e1⟩:=Im hg
  rw [e1] at hg
  have e0:LW h h1 (p::acc) κ=_:=e1
  rw [e0]
  rw [Bz] at hg ⊢
  cases hp:Ar p h with
  | none=>rw [hp] at hg; exact hg.elim
  | some op =>
   show ∃ hf',PutOK h h1 (p::acc) hf'∧(Rh op hf fun hf=>Bu p h1 fun o1=>Bx p hf o1 κ)=κ hf'
   rw [TU,Bz,C0,Bm]
   refine ⟨_,⟨fun q o hq=>?_⟩,rfl⟩
   rcases BG hq with ⟨rfl,e⟩ | ⟨hne,hq⟩
   ·exact .inl ⟨List.mem_cons_self ..,e⟩
   ·obtain ⟨k1,hq⟩:=Dk hq
    rcases ok.put q o hq with ⟨a,b⟩ | ⟨a,b,c⟩
    ·exact .inl ⟨List.mem_cons_of_mem _ a,b⟩
    ·refine .inr ⟨fun hm=>?_,b,fun p' hp' op' hop'=>?_⟩
     ·rcases List.mem_cons.1 hm with e | hm
      ·exact hne e.symm
      ·exact a hm
     ·rcases List.mem_cons.1 hp' with e | hp'
      ·subst e; rw [hp] at hop'; cases hop'; exact k1
      ·exact c p' hp' op' hop'
section
variable {h hs h1 h' hf:Heap} {acc:List K4} {n n' m:K4} {v1 v:V} {φ φ':Ba} {w w':World}
theorem G9 (sub:Sub h hs acc) (put:PutOK h h1 acc hf) (g:Gam ρ B h n φ w) {q:K4} {o:Ob} (hq:q ∉ acc) (ho:Ar q hf=some o) {b s tot:Nat} (hφ:φ q=some (b,s,tot)) {p:K4} (hp:p∈acc) {s' tot':Nat} (hφp:φ p=some (b,s',tot')):False:=by
 obtain ⟨op',hop⟩:=sub.has p hp
 obtain ⟨op,k1,_,k2,_⟩:=sub.sub p op' hop
 rcases put.put q o ho with ⟨a,_⟩ | ⟨_,a,c⟩
 ·exact hq a
 ·have hne:p≠q:=fun e=>hq (e ▸ hp)
  rcases g.sep p q op o b s' tot' s tot hne k1 a hφp hφ with e | e
  ·exact c p hp op k1 e
  ·have:=g.sup q p o op b s tot s' tot' a e k1 hφ hφp
   cases op with
   | c cs sup prev =>
    have this:sup=true:=this
    subst this
    cases k2
   | m _ _ _=>cases this
   | it _ _ _ _=>cases this
   | it0=>cases this
   | lp _ _=>cases this
theorem TS (sub:Sub h hs acc) (put:PutOK h h1 acc hf) (g:Gam ρ B h n φ w) (f1:Fr hs h' φ φ' n n' w w') {q:K4} {o:Ob} (hq:q ∉ acc) (ho:Ar q hf=some o) {b s tot:Nat} (hφ:φ q=some (b,s,tot)):w'.heap[b]? = w.heap[b]?:=by
 refine f1.old b (g.blk q b s tot hφ).2 fun p s' tot' hp=>?_
 cases hx:Ar p hs with
 | none=>rfl
 | some o'=>exact (G9 sub put g hq ho hφ (sub.mem hx) hp).elim
theorem UV (sub:Sub h hs acc) (put:PutOK h h1 acc hf) (g:Gam ρ B h n φ w) (f1:Fr hs h' φ φ' n n' w w') (g1:Gam ρ B h' n' φ' w')
  (hacc:∀ p∈acc,Ar p h1=Ar p h' ∧ ∀ o,Ar p h1=some o->Jq n o) (hm:n.toN≤m.toN):Gam ρ B hf m φ w'∧Fr h hf φ φ n m w w':=by
 have back:∀ p x,p.toN<n.toN->φ' p=some x->φ p=some x:=fun p x hp hx=>by
  rcases f1.new p x hx with h | ⟨h,_⟩
  ·exact h
  ·omega
 have inacc:∀ q o,q∈acc->Ar q hf=some o->Ar q h'=some o∧Jq n o:=fun q o hq ho=>by
  rcases put.put q o ho with ⟨_,a⟩ | ⟨a,_⟩
  ·exact ⟨(hacc q hq).1 ▸ a,(hacc q hq).2 o a⟩
  ·exact absurd hq a
 have outacc:∀ q o,q ∉ acc->Ar q hf=some o->Ar q h=some o:=fun q o hq ho=>by
  rcases put.put q o ho with ⟨a,_⟩ | ⟨_,a,_⟩
  ·exact absurd a hq
  ·exact a
 refine ⟨⟨Nat.le_trans g.base f1.size,fun p x hx=>Nat.lt_of_lt_of_le (g.dom p x hx) hm,fun p b s tot hx=>⟨(g.blk p b s tot hx).1,Nat.lt_of_lt_of_le (g.blk p b s tot hx).2 f1.size⟩,fun q o b s tot ho hx=>?_,fun p q o o' b s tot s' tot' hne ho ho' hx hy=>?_,fun p q o o' b s tot s' tot' ho hpr ho' hx hy=>?_,g1.glob⟩,
  ⟨Ba.le_refl φ,fun _ _ h=>.inl h,hm,f1.os,f1.tape,f1.out,f1.size,fun b hb hn=>f1.old b hb fun p s tot hp=>?_,fun _ _ _ _ h=>.inl h,fun p hp hn=>?_⟩⟩
 ·by_cases hq:q∈acc
  ·obtain ⟨a,c⟩:=inacc q o hq ho
   exact Lo back c (g1.obj q o b s tot a (f1.ext _ _ hx))
  ·exact Ci (TS sub put g f1 hq ho hx) (g.obj q o b s tot (outacc q o hq ho) hx)
 ·by_cases hp:p∈acc
  ·by_cases hq:q∈acc
   ·exact g1.sep p q o o' b s tot s' tot' hne (inacc p o hp ho).1 (inacc q o' hq ho').1 (f1.ext _ _ hx) (f1.ext _ _ hy)
   ·exact (G9 sub put g hq ho' hy hp hx).elim
  ·by_cases hq:q∈acc
   ·exact (G9 sub put g hp ho hx hq hy).elim
   ·exact g.sep p q o o' b s tot s' tot' hne (outacc p o hp ho) (outacc q o' hq ho') hx hy
 ·by_cases hp:p∈acc
  ·rw [(inacc p o hp ho).2.prev] at hpr; cases hpr
  ·by_cases hq:q∈acc
   ·exact (G9 sub put g hp ho hx hq hy).elim
   ·exact g.sup p q o o' b s tot s' tot' (outacc p o hp ho) hpr (outacc q o' hq ho') hx hy
 ·cases hx:Ar p hs with
  | none=>rfl
  | some o'=>have:=hn p s tot hp; obtain ⟨o0,e0⟩:=sub.in_h hx; rw [e0] at this; cases this
 ·cases hx:Ar p hf with
  | none=>rfl
  | some o =>
   exfalso
   by_cases hq:p∈acc
   ·obtain ⟨o',ho'⟩:=sub.has p hq
    obtain ⟨o0,e0⟩:=sub.in_h ho'
    rw [e0] at hn; cases hn
   ·rw [outacc p o hq hx] at hn; cases hn
theorem Ub (sub:Sub h hs acc) (put:PutOK h h1 acc hf) (g:Gam ρ B h n φ w) (f1:Fr hs h' φ φ' n n' w w') (g1:Gam ρ B h' n' φ' w') {x:Value} (r1:AL ρ φ' v x)
  (way:U8 n v1 h1 acc m (.rv v h' n')) (hm:n.toN≤m.toN) {vf:V} {hff:Heap} {nf:K4} (hres:UU n v1 h1 hf m = .rv vf hff nf) :
  ∃ φ'',Fr h hff φ φ'' n nf w w'∧Gam ρ B hff nf φ'' w'∧AL ρ φ'' vf x:=by
 obtain ⟨res,hacc,hn'⟩:=way
 obtain ⟨gb,fb⟩:=UV sub put g f1 g1 hacc hm
 have back:∀ p x,p.toN<n.toN->φ' p=some x->φ p=some x:=fun p x hp hx=>by
  rcases f1.new p x hx with h | ⟨h,_⟩
  ·exact h
  ·omega
 unfold UU at hres
 rcases res with ⟨ho,e⟩ | ⟨ho,p,p',off,len,cap,ex,esz,e1,e2,hp,hp',heq,hold⟩
 ·subst e
  rw [ho] at hres
  have hres:R.rv v1 hf m=R.rv vf hff nf:=hres
  cases hres
  exact ⟨φ,fb,gb,EW back ho r1⟩
 ·rw [ho] at hres
  subst e1 e2
  have hres:(Bu p h1 fun o=>@Option.rec Ob (fun _=>R) (.fail "") (fun ob=>Bx m hf (some ob) fun hf=>m.nx fun m'=>.rv (.sl m off len cap ex esz) hf m') (JF n o)) = .rv vf hff nf:=hres
  rw [Bz] at hres
  cases hob:JF n (Ar p h1) with
  | none=>rw [hob] at hres; cases hres
  | some ob =>
   rw [hob] at hres
   have hres:(Bx m hf (some ob) fun hf=>m.nx fun m'=>.rv (.sl m off len cap ex esz) hf m') = .rv vf hff nf:=hres
   rw [C0,Bm] at hres
   rcases K4.nx_eq m (fun m'=>.rv (.sl m off len cap ex esz) (AJ m hf (some ob)) m') with ⟨why,e⟩ | ⟨m',hm',e⟩
   ·rw [e] at hres; cases hres
   rw [e] at hres
   cases hres
   have hOld:=hold ob hob
   obtain ⟨obr,hob',hpv,hcl⟩:=SJ (heq ▸ hob)
   obtain ⟨b',s',tot',o,cap',hφ',gx,c1,c2,c3,c4⟩:=CI r1
   have hmn:φ m=none:=by
    cases hx:φ m with
    | none=>rfl
    | some x=>have:=g.dom m x hx; omega
   have hoblk:=g1.blk p' b' s' tot' hφ'
   -- no object that was there lies in that block
   have apart:∀ q oq,Ar q hf=some oq->∀ s tot,φ q=some (b',s,tot)->False:=fun q oq hq s tot hx=>by
    have hqn:=g.dom q _ hx
    have hne:p'≠q:=fun e=>by rw [e] at hp'; omega
    by_cases hqa:q∈acc
    ·rcases put.put q oq hq with ⟨_,a⟩ | ⟨a,_⟩
     ·have a':Ar q h'=some oq:=(hacc q hqa).1 ▸ a
      rcases g1.sep p' q obr oq b' s' tot' s tot hne hob' a' hφ' (f1.ext _ _ hx) with e | e
      ·have:=hpv hOld.prev q e; omega
      ·rw [((hacc q hqa).2 oq a).prev] at e; cases e
     ·exact a hqa
    ·rcases f1.fresh p' b' s' tot' hφ' with h | h | ⟨r,sr,tr,hr,hne'⟩
     ·have:=g.dom p' _ h; omega
     ·have:=(g.blk q b' s tot hx).2; omega
     ·cases hx':Ar r hs with
      | none=>exact hne' hx'
      | some o'=>exact G9 sub put g hqa hq hx (sub.mem hx') hr
   refine ⟨Er φ m (b',s',tot'),⟨Ba.le_trans fb.ext (D5 hmn),fun q y hy=>?_,by omega,fb.os,fb.tape,fb.out,fb.size,fb.old,fun q b s t hx=>?_,fun q hq hn=>?_⟩,⟨gb.base,fun q y hy=>?_,fun q b s t hy=>?_,fun q oq b s t hq hy=>?_,fun q r oq or b s t s2 t2 hne hq hr hx hy=>?_,fun q r oq or b s t s2 t2 hq hpr hr hx hy=>?_,gb.glob⟩,?_⟩
   ·rcases AU hy with ⟨rfl,_⟩ | ⟨_,hy⟩
    ·exact .inr ⟨hm,by omega⟩
    ·exact .inl hy
   ·rcases AU hx with ⟨rfl,e⟩ | ⟨_,hx⟩
    ·cases e
     rcases f1.fresh p' b' s' tot' hφ' with h | h | ⟨r,sr,tr,hr,hne'⟩
     ·have:=g.dom p' _ h; omega
     ·exact .inr (.inl h)
     ·refine .inr (.inr ⟨r,sr,tr,hr,?_⟩)
      cases hx':Ar r hs with
      | none=>exact absurd hx' hne'
      | some o'=>obtain ⟨o0,e0⟩:=sub.in_h hx'; rw [e0]; simp
    ·exact .inl hx
   ·have hne:m≠q:=fun e=>hq (e ▸ hmn)
    rw [Ah _ _ hne]
    exact fb.dm q hq hn
   ·rcases AU hy with ⟨rfl,_⟩ | ⟨_,hy⟩
    ·omega
    ·have:=gb.dom q y hy; omega
   ·rcases AU hy with ⟨rfl,e⟩ | ⟨_,hy⟩
    ·cases e; exact hoblk
    ·exact gb.blk q b s t hy
   ·rcases AU hy with ⟨rfl,e⟩ | ⟨hne,hy⟩
    ·cases e
     rw [Am] at hq; cases hq
     refine Lo (φ1:=φ') (fun q y hq hy=>?_) hOld (hcl (g1.obj p' obr _ _ _ hob' hφ'))
     rw [Hz fun e=>by subst e; omega]
     exact back q y hq hy
    ·rw [Ah _ _ hne] at hq
     exact Eg (D5 hmn) (gb.obj q oq b s t hq hy)
   ·rcases AU hx with ⟨rfl,e⟩ | ⟨hq',hx⟩
    ·cases e
     rcases AU hy with ⟨e,_⟩ | ⟨hr',hy⟩
     ·exact absurd e hne
     ·rw [Ah _ _ hr'] at hr
      exact (apart r or hr s2 t2 hy).elim
    ·rw [Ah _ _ hq'] at hq
     rcases AU hy with ⟨rfl,e⟩ | ⟨hr',hy⟩
     ·cases e
      exact (apart q oq hq s t hx).elim
     ·rw [Ah _ _ hr'] at hr
      exact gb.sep q r oq or b s t s2 t2 hne hq hr hx hy
   ·rcases AU hx with ⟨rfl,e⟩ | ⟨hq',hx⟩
    ·rw [Am] at hq; cases hq
     rw [hOld.prev] at hpr; cases hpr
    ·rw [Ah _ _ hq'] at hq
     rcases AU hy with ⟨rfl,e⟩ | ⟨hr',hy⟩
     ·cases e
      exact (apart q oq hq s t hx).elim
     ·rw [Ah _ _ hr'] at hr
      exact gb.sup q r oq or b s t s2 t2 hq hpr hr hx hy
   ·rw [gx]
    simp only [AL]
    exact ⟨b',s',tot',o,cap',BU _ _ _,rfl,c1,c2,c3,c4⟩
end
theorem Xh {f:FuncId} {run:Heap->R} {k:Nat} {args:List V} {h:Heap} {n:K4} {v:V} {h1:Heap} {n1:K4} (hr:Zi k run args h n = .rv v h1 n1) {φ:Ba} {w:World} {xs:Array Value} (g:Gam ρ B h n φ w) (hxs:BC ρ φ args xs.toList)
  (H:∀ (hs:Heap) (Φ:R->Prop),(run hs).sat Φ->Gam ρ B hs n φ w->HR P f xs w fun x w'=>∃ v h1 n1 φ',Φ (.rv v h1 n1)∧Fr hs h1 φ φ' n n1 w w'∧Gam ρ B h1 n1 φ' w'∧AL ρ φ' v x) :
  HR P f xs w fun x w'=>∃ φ',Fr h h1 φ φ' n n1 w w'∧Gam ρ B h1 n1 φ' w'∧AL ρ φ' v x:=by
 unfold Zi at hr
 obtain ⟨hs,acc,sub,e1⟩:=EY k (todo:=UQ args []) (κ:=fun hs acc=>WR n h acc (run hs)) (Sub.nil (h:=h))
 rw [e1] at hr
 unfold WR at hr
 obtain ⟨v1,hh1,e2⟩:=Kb (by rw [hr]; trivial)
 rw [e2] at hr
 obtain ⟨m,hm,sat,e3⟩:=Jv (by rw [hr]; trivial)
 rw [e3] at hr
 obtain ⟨hf,put,e4⟩:=Im (by rw [hr]; trivial)
 rw [e4] at hr
 have gs:Gam ρ B hs n φ w:=by
  refine ⟨g.base,g.dom,g.blk,fun p o b s tot hp hx=>?_,fun p q o o' b s tot s' tot' hne hp hq hx hy=>?_,fun p q o o' b s tot s' tot' hp hpr hq hx hy=>?_,g.glob⟩
  ·obtain ⟨o0,e0,rfl,_⟩:=sub.sub p o hp
   exact Ru (g.obj p o0 b s tot e0 hx)
  ·exfalso
   obtain ⟨o0,e0,_,g0,_⟩:=sub.sub p o hp
   obtain ⟨o1,e1,_,g1,_⟩:=sub.sub q o' hq
   have no:∀ (ob:Ob),Hi ob=true->J4 ob=true->False:=fun ob h1 h2=>by
    cases ob with
    | c cs sup prev =>
     cases sup with
     | true=>cases h1
     | false=>cases h2
    | _=>cases h2
   rcases g.sep p q o0 o1 b s tot s' tot' hne e0 e1 hx hy with h | h
   ·exact no o1 g1 (g.sup p q o0 o1 b s tot s' tot' e0 h e1 hx hy)
   ·exact no o0 g0 (g.sup q p o1 o0 b s' tot' s tot e1 h e0 hy hx)
  ·obtain ⟨o0,e0,rfl,_⟩:=sub.sub p o hp
   rw [MY] at hpr; cases hpr
 intro o a K Q hK
 refine H hs _ sat gs o a K Q fun x w' ⟨v',h',n',φ',way,f1,g1,r1⟩=>hK x w' ?_
 exact Ub sub put g f1 g1 r1 way hm hr
end
end Go.Ev

namespace Go.Ev
set_option linter.unusedVariables false
open Go.RowKit
abbrev rdK (pb px:K2) (al bl:List AOp) (cf:If) (b x:V) (h:Heap) (n:K4):R :=
 Dx [] cf al [(px,x),(pb,b)] Fi h n fun env t h n=>Dx [] cf bl env t h n fun _ _ h n=>.rv (.bool true) h n
abbrev Rd:=If->V->V->Heap->K4->R
def Oe (l:List Oper):Bool:=l.all fun o=>match o.op with | .defer _=>false | _=>true
theorem JR {l:List Oper} (h:Oe l=true):∀ o∈l,∀ c,o.op ≠ .defer c:=fun o ho c e=>by
 have:=List.all_eq_true.1 h o ho
 rw [e] at this; cases this
def S7:Code->Option (Array Oper)
 | .region _ ops false=>some ops
 | _=>none
def Ty:Code->Option (Array Oper)
 | .block _ c=>S7 c
 | _=>none
def TF (P:Program) (A:ApC):Option Rd :=
 match S7 A.asg,Ty A.bod,K2.ofN A.par,K2.ofN A.box with
 | some oa,some ob,some px,some pb=>match HP P A.ntm oa oa.toList,HP P A.ntm ob ob.toList with
  | some al,some bl=>if GK [] al [px,pb]&&(GK [] bl (D0 al [px,pb])&&(Oe oa.toList&&(Oe ob.toList&&(Nat.blt A.par A.ntm&&(Nat.blt A.box A.ntm && !(A.par == A.box)))))) then some (rdK pb px al bl) else none
  | _,_=>none
 | _,_,_,_=>none
theorem L7 {c:Code} {ops:Array Oper} (h:S7 c=some ops):∃ i,c = .region i ops false:=by
 unfold S7 at h
 split at h
 ·cases h; exact ⟨_,rfl⟩
 ·cases h
theorem R2 {c:Code} {ops:Array Oper} (h:Ty c=some ops):∃ i j,c = .block i (.region j ops false):=by
 unfold Ty at h
 split at h
 ·obtain ⟨j,rfl⟩:=L7 h; exact ⟨_,j,rfl⟩
 ·cases h
def M6 (P:Program) (f:FuncId):Option ApC :=
 match P.funcs[f]? with
 | some fn=>match fn.body with
  | some (.seq (.region _ r0 false) (.seq (.seq (.region _ r1 false) (.block _ (.rangeFunc (.tmp s6) ps asg bod))) (.seq (.region _ r4 false) .ret))) =>
   match r0.toList,r1.toList,r4.toList,ps.toList,fn.results.toList with
   | [o1,o2],[o3],[o4,o5],[par],[.tmp s4]=>match o1.op,o2.op,o3.op,o4.op,o5.op with
    | .box _ (.tmp s0),.assign (.const c2),.move (.tmp s1),.load tL (.tmp s2),.assign (.tmp s12) =>
     if (fn.name == "runtime.NumGoroutine")=false∧fn.ntmps=13∧s6=6∧s4=4∧s0=0∧s1=1∧s2=2∧s12=12∧o1.dst=some 2∧o2.dst=some 4∧o3.dst=some 6∧o4.dst=some 12∧o5.dst=some 4 ∧
      o1.guard=none∧o2.guard=none∧o3.guard=none∧o4.guard=none∧o5.guard=none∧L4 P tL=some false then some ⟨asg,bod,par,2,13⟩ else none
    | _,_,_,_,_=>none
   | _,_,_,_,_=>none
  | _=>none
 | none=>none
def Da (l:List V) (κ:V->List V->R):R:=@List.rec V (fun _=>R) (.fail "") (fun x xs _=>κ x xs) l
def GM (l:List V) (κ:R):R:=@List.rec V (fun _=>R) κ (C4 "") l
def Qe (v:V) (κ:R):R :=
 @V.rec (fun _=>R) (fun _=>Unit) (AT "") (Bb "") (AT "") (DQ "") (AT "") (AT "")
  (fun u=>@Nl.rec (fun _=>R) (.fail "") κ (.fail "") (.fail "") (.fail "") u) (Bb "") (C4 "") (AT "") (Bb "") () (fun _ _ _ _=>()) v
def UW (v:V) (κ:Nat->List V->R):R :=
 @V.rec (fun _=>R) (fun _=>Unit) (AT "") (Bb "") (AT "") (DQ "") (AT "") (AT "") (Bb "") (Bb "")
  (fun f caps _=>κ f caps) (AT "") (Bb "") () (fun _ _ _ _=>()) v
def Yf (o:Cu) (κ:R):R:=@Option.rec Ob (fun _=>R) (.fail "") (fun o=>@Ob.rec (fun _=>R) (C4 "") (C4 "") (FQ "") (.fail "") (fun _ _=>κ) o) o
def HY (g:Nat) (l:List Nat) (κ:R):R:=@List.rec Nat (fun _=>R) (.fail "") (fun x _ ih=>br (Nat.beq x g) κ ih) l
def Xc (f:Nat) (its:List Nat) (cf:If) (args:List V) (h:Heap) (n:K4):R :=
 Da args fun v l=>Da l fun s l=>GM l (Qe v (UW s fun g caps=>HY g its
  (Bx n h (some (.c (.l [.nil .sl]) false none)) fun h=>n.nx fun n1=>Bx n1 h (some (.lp f n)) fun h=>n1.nx fun n2 =>
   BY (cf (B2 g) (.oth (.yl n1)::caps) h n2) fun _ h m =>
    Bu n1 h fun o=>Yf o (HH n h fun cs _ _=>Gd cs 0 fun sv=>Bx n h none fun h=>Bx n1 h none fun h=>.rv sv h m))))
section
variable {P:Program} {ρ:Env} {B:Nat} {h:Heap} {n:K4}
def Wr (φ:Ba) (h:Heap) (l:Nat):Prop:=∀ q s tot,φ q=some (l,s,tot)->Ar q h=none
theorem Wr.step {φ φ1:Ba} {h1:Heap} {n1:K4} {w w1:World} {l:Nat} (u:Wr φ h l) (hl:l<w.heap.size) (f:Fr h h1 φ φ1 n n1 w w1):Wr φ1 h1 l:=fun q s tot hq=>by
 rcases f.fresh q l s tot hq with e | e | ⟨r,s',tot',hr,hne⟩
 ·exact f.dm q (by rw [e]; simp) (u q s tot e)
 ·omega
 ·exact absurd (u r s' tot' hr) hne
theorem Gam.poke {φ:Ba} {w:World} (g:Gam ρ B h n φ w) {l:Nat} (u:Wr φ h l) (O:Obj) (hno:∀ c e fr,w.heap[l]? ≠ some (.cells c e fr)):Gam ρ B h n φ (w.putObj l O) where
 glob:=fun k c e fr hk=>⟨(g.glob k c e fr hk).1,by rw [World.putObj_heap_other (fun e'=>by subst e'; exact hno _ _ _ (g.glob _ c e fr hk).2)]; exact (g.glob k c e fr hk).2⟩
 base:=by rw [World.putObj_size]; exact g.base
 dom:=g.dom
 blk:=fun p b s t hp=>by rw [World.putObj_size]; exact g.blk p b s t hp
 obj:=fun p o b s t hp hφ=>by
  refine Ci (World.putObj_heap_other fun e=>?_) (g.obj p o b s t hp hφ)
  subst e
  rw [u p s t hφ] at hp; cases hp
 sep:=g.sep
 sup:=g.sup
theorem Fr.around {h1:Heap} {n1:K4} {φ φ1:Ba} {w W:World} {l:Nat} {O O0:Obj} (hl:w.heap[l]? = some O0) (f:Fr h h1 φ φ1 n n1 (w.putObj l O) W):Fr h h1 φ φ1 n n1 w (W.putObj l O0):=by
 have hlt:l<w.heap.size:=by
  rcases Nat.lt_or_ge l w.heap.size with e | e
  ·exact e
  ·rw [Array.getElem?_eq_none e] at hl; cases hl
 have hs:=f.size
 rw [World.putObj_size] at hs
 refine ⟨f.ext,f.new,f.nn,f.os,f.tape,f.out,by rw [World.putObj_size]; exact hs,fun b hb hn=>?_,fun q b s t hq=>?_,f.dm⟩
 ·by_cases e:b=l
  ·subst e; rw [World.putObj_heap_same (by omega),hl]
  ·rw [World.putObj_heap_other e,f.old b (by rw [World.putObj_size]; exact hb) hn,World.putObj_heap_other e]
 ·have:=f.fresh q b s t hq
  rwa [World.putObj_size] at this
theorem Fr.poke {h1:Heap} {n1:K4} {φ φ1:Ba} {w W:World} {l:Nat} (O:Obj) (hl:w.heap.size≤l) (f:Fr h h1 φ φ1 n n1 w W):Fr h h1 φ φ1 n n1 w (W.putObj l O) :=
 ⟨f.ext,f.new,f.nn,f.os,f.tape,f.out,by rw [World.putObj_size]; exact f.size,fun b hb hn=>by rw [World.putObj_heap_other (by omega)]; exact f.old b hb hn,f.fresh,f.dm⟩
def W9:Regs:=Regs.all (VP.all (.oth .any))
theorem Sk (p:K2):Bo p W9 = .oth .any:=by simp only [Bo,W9,Regs.sel_all,VP.sel_all]
theorem Y1 (hρ:Bp ρ) {cf:CF} {cf2:If} (hcf:Ea P ρ B cf) (h2:∀ f,cf2 (B2 f)=cf f) {A:ApC} {rd:Rd} (hrd:TF P A=some rd) {fn:FuncId} {box:K4} {x:V} {Φ:R->Prop}
  (hs:(rd cf2 (.ptr box 0) x h n).sat Φ) {φ:Ba} {w:World} {tmps:Array Value} {X:Value} {l D:Nat} (g:Gam ρ B h n φ w) (hl:w.heap[l]? = some (.loop (FG A fn tmps D))) (u:Wr φ h l)
  (hsz:tmps.size=A.ntm) (hbox:AL ρ φ (.ptr box 0) (tmps.getD A.box undef)) (hX:AL ρ φ x X) :
  RoundIn Fence.wide 0 P l fn (tmps.setIfInBounds A.par X) A.asg A.bod w fun e w'=>e = .returned (.bool true) ∧
   ∃ v h1 n1 φ',v = .bool true∧Φ (.rv v h1 n1)∧Fr h h1 φ φ' n n1 w w'∧Gam ρ B h1 n1 φ' w':=by
 unfold TF at hrd
 split at hrd
 ·rename_i oa ob px pb ha hb hpx hpb
  split at hrd
  ·rename_i al bl hal hbl
   split at hrd
   ·rename_i hok
    cases hrd
    simp only [Bool.and_eq_true,Nat.blt_eq] at hok
    obtain ⟨ok1,ok2,nd1,nd2,lt1,lt2,hne⟩:=hok
    have hne:A.par≠A.box:=by simpa using hne
    obtain ⟨i,hasg⟩:=L7 ha
    obtain ⟨j,k,hbod⟩:=R2 hb
    have hlt:l<w.heap.size:=by
     rcases Nat.lt_or_ge l w.heap.size with e | e
     ·exact e
     ·rw [Array.getElem?_eq_none e] at hl; cases hl
    have hpp:px≠pb:=fun e=>hne (K2.ofN_inj hpx (e ▸ hpb))
    have ri:RI [] [px,pb] [(px,x),(pb,.ptr box 0)] (EK px (EK pb W9 (.ptr box 0)) x) Fi:=by
     refine ⟨fun h=>(by cases h),fun p v hp=>?_,fun p hp=>?_,fun p s h=>(by cases h)⟩
     ·by_cases e:px=p
      ·subst e; rw [DC] at hp; cases hp; exact Bk _ _ _
      ·rw [FY e] at hp
       rw [BE _ _ e]
       by_cases e':pb=p
       ·subst e'; rw [DC] at hp; cases hp; exact Bk _ _ _
       ·rw [FY e'] at hp; simp [Fs] at hp
     ·by_cases e:px=p
      ·subst e; exact ⟨x,DC⟩
      ·rw [FY e]
       by_cases e':pb=p
       ·subst e'; exact ⟨_,DC⟩
       ·simp at hp; rcases hp with hp | hp
        ·exact absurd hp.symm e
        ·exact absurd hp.symm e'
    have hT:TR ρ A.ntm φ (EK px (EK pb W9 (.ptr box 0)) x) { tmps:=tmps.setIfInBounds A.par X,defers:=[] }:={
     size:=by simp [hsz]
     defers:=rfl
     at_:=fun s p hs hp=>by
      show AL ρ φ _ ((tmps.setIfInBounds A.par X).getD s undef)
      by_cases e:A.par=s
      ·subst e
       rw [hpx] at hp; cases hp
       rw [Bk,Array.getD_eq_getD_getElem?,Array.getElem?_setIfInBounds_self_of_lt (by omega)]
       exact hX
      ·rw [BE _ _ (fun e'=>e (K2.ofN_inj hpx (by rw [e']; exact hp))),Array.getD_eq_getD_getElem?,Array.getElem?_setIfInBounds_ne e,←Array.getD_eq_getD_getElem?]
       by_cases e2:A.box=s
       ·subst e2
        rw [hpb] at hp; cases hp
        rw [Bk]; exact hbox
       ·rw [BE _ _ (fun e'=>e2 (K2.ofN_inj hpb (by rw [e']; exact hp))),Sk]
        simp only [AL] }
    have hs:(Dx [] cf2 al [(px,x),(pb,.ptr box 0)] Fi h n fun env t h n=>Dx [] cf2 bl env t h n fun _ _ h n=>.rv (.bool true) h n).sat Φ:=hs
    obtain ⟨env1,t1,t1',h1,n1,e1,ri1,H1⟩:=DI (B:=B) (ops:=oa) hρ hcf h2 hal ok1 ri (R.sat_good hs)
    rw [e1] at hs
    obtain ⟨env2,t2,t2',h2',n2,e2,ri2,H2⟩:=DI (B:=B) (ops:=ob) hρ hcf h2 hbl ok2 ri1 (R.sat_good hs)
    rw [e2] at hs
    have hs:Φ (.rv (.bool true) h2' n2):=hs
    refine roundIn_of_wpIn trivial ?_
    rw [hasg,hbod]
    have c1:=Ee (l:=some l) (n:=0) (r:=[]) (.inr (JR nd1)) (H1 φ _ w hT g (Exit.then (fun a₁ w₁=>∃ w₂,(Instr.beginRound l).run P w₁ = .ok () w₂∧(Code.block j (.region k ob false)).wpIn (Fence.wide.inRound l) 0 P (roundPost P l (fun e w'=>e = .returned (.bool true) ∧
      ∃ v h1 n1 φ',v = .bool true∧Φ (.rv v h1 n1)∧Fr h h1 φ φ' n n1 w w'∧Gam ρ B h1 n1 φ' w')) a₁ w₂) (fun _ _ _=>False)) (wpListIn (Mu (some l)) 0 P oa _ []) fun φ1 a1 w1 f1 g1 T1=>wpListIn_nil (F:=Mu (some l)) ?_)
    ·rw [List.append_nil] at c1
     exact wpIn_region_list c1
    ·have u1:=u.step hlt f1
     have hl1:w1.heap[l]? = some (.loop (FG A fn tmps D)):=(f1.old l hlt u).trans hl
     refine ⟨_,run_beginRound hl1 rfl,wpIn_block (wpIn_region_list ?_)⟩
     have g1':=g1.poke u1 (.loop { FG A fn tmps D with state:=.busy }) (fun c e fr h=>by rw [hl1] at h; cases h)
     have c2:=Ee (l:=some l) (n:=0) (r:=[]) (.inr (JR nd2)) (H2 φ1 a1 _ T1 g1' (Exit.inBlock j (roundPost P l (fun e w'=>e = .returned (.bool true) ∧
      ∃ v h1 n1 φ',v = .bool true∧Φ (.rv v h1 n1)∧Fr h h1 φ φ' n n1 w w'∧Gam ρ B h1 n1 φ' w'))) (wpListIn (Mu (some l)) 0 P ob _ []) fun φ2 a2 w2 f2 g2 T2=>wpListIn_nil (F:=Mu (some l)) ?_)
     ·rw [List.append_nil] at c2; exact c2
     ·have hlt1:l<(w1.putObj l (.loop { FG A fn tmps D with state:=.busy })).heap.size:=by rw [World.putObj_size]; have:=f1.size; omega
      have u2:=u1.step hlt1 f2
      have hl2:w2.heap[l]? = some (.loop { FG A fn tmps D with state:=.busy }):=(f2.old l hlt1 u1).trans (World.putObj_heap_same (by rwa [World.putObj_size] at hlt1))
      exact ⟨_,_,run_endRound none hl2,rfl,_,h2',n2,φ2,rfl,hs,Fr.trans f1 (f2.around hl1),g2.poke u2 _ (fun c e fr h=>by rw [hl2] at h; cases h)⟩
   ·cases hrd
  ·cases hrd
 ·cases hrd
def Kx (P:Program) (g:FuncId):Prop:=∃ fn c,P.funcs[g]? = some fn∧fn.body=some c∧(fn.name == "runtime.NumGoroutine")=false
theorem Br {l:List V} {κ:V->List V->R} (hg:(Da l κ).good):∃ x xs,l=x::xs∧Da l κ=κ x xs:=by
 cases l with
 | nil=>exact hg.elim
 | cons x xs=>exact ⟨x,xs,rfl,rfl⟩
theorem Cj {l:List V} {κ:R} (hg:(GM l κ).good):l=[]∧GM l κ=κ:=by
 cases l with
 | nil=>exact ⟨rfl,rfl⟩
 | cons x xs=>exact hg.elim
theorem P8 {v:V} {κ:R} (hg:(Qe v κ).good):v = .nil .sl∧Qe v κ=κ:=by
 cases v with
 | nil u=>cases u with
  | sl=>exact ⟨rfl,rfl⟩
  | _=>exact hg.elim
 | _=>exact hg.elim
theorem Qw {v:V} {κ:Nat->List V->R} (hg:(UW v κ).good):∃ f l,v = .fn f l∧UW v κ=κ f l:=by
 cases v with
 | fn f l=>exact ⟨f,l,rfl,rfl⟩
 | _=>exact hg.elim
theorem V5 {o:Cu} {κ:R} (hg:(Yf o κ).good):(∃ f b,o=some (.lp f b))∧Yf o κ=κ:=by
 cases o with
 | none=>exact hg.elim
 | some ob=>cases ob with
  | lp f b=>exact ⟨⟨f,b,rfl⟩,rfl⟩
  | _=>exact hg.elim
theorem L6 {g:Nat}:∀ {l:List Nat} {κ:R},(HY g l κ).good->g∈l∧HY g l κ=κ
 | [],κ,hg=>hg.elim
 | x::l,κ,hg=>by
  have hg:R.good (br (Nat.beq x g) κ (HY g l κ)):=hg
  show _∧br (Nat.beq x g) κ (HY g l κ)=κ
  cases hb:Nat.beq x g with
  | true=>exact ⟨by rw [Nat.eq_of_beq_eq_true hb]; exact List.mem_cons_self ..,rfl⟩
  | false =>
   rw [hb] at hg
   obtain ⟨h1,h2⟩:=L6 (show R.good (HY g l κ) from hg)
   exact ⟨List.mem_cons_of_mem _ h1,h2⟩
theorem BO {o:Oper} {a:Act} {w w':World} {x:Value} {K:Act->World->Prop} {Q:Exit->Act->World->Prop} (hr:(execOp a.eval o).run P w = .ok (.value x) w') (hK:K (a.put o.dst x) w'):o.wpIn Fence.wide 0 P a w K Q :=
 RW (l:=none) (.inl rfl) (fun _ _ h=>h) (show o.wp P a w K Q by unfold Oper.wp; rw [hr]; exact hK)
theorem XM {f:FuncId} {its:List Nat} {A:ApC} (hA:ρ.ap f=some A) (hsh:M6 P f=some A) (hits:∀ g∈its,Kx P g) {cf:CF} {cf2:If} (hcf:IY P ρ B cf) (h2:∀ f,cf2 (B2 f)=cf f) {args:List V} {Φ:R->Prop}
  (hr:(Xc f its cf2 args h n).sat Φ) {φ:Ba} {w:World} {xs:Array Value} (g:Gam ρ B h n φ w) (hxs:BC ρ φ args xs.toList) :
  HR P f xs w fun x w'=>∃ v h1 n1 φ',Φ (.rv v h1 n1)∧Fr h h1 φ φ' n n1 w w'∧Gam ρ B h1 n1 φ' w'∧AL ρ φ' v x:=by
 unfold M6 at hsh
 split at hsh
 next fn hfn =>
  split at hsh
  next i0 r0 i1 r1 b0 s6 ps asg bod i4 r4 hbody =>
   split at hsh
   next o1 o2 o3 o4 o5 par s4 e0 e1 e4 eps ers =>
    split at hsh
    next tS s0 c2 s1 tL s2 s12 p1 p2 p3 p4 p5 =>
     split at hsh
     next hc =>
      obtain ⟨hname,hnt,rfl,rfl,rfl,rfl,rfl,rfl,d1,d2,d3,d4,d5,g1,g2,g3,g4,g5,hagg⟩:=hc
      cases hsh
      have hname:(fn.name == "runtime.NumGoroutine")=false:=hname
      -- the arguments
      unfold Xc at hr
      obtain ⟨v,l,rfl,q1⟩:=Br (R.sat_good hr)
      rw [q1] at hr
      obtain ⟨s,l,rfl,q2⟩:=Br (R.sat_good hr)
      rw [q2] at hr
      obtain ⟨rfl,q3⟩:=Cj (R.sat_good hr)
      rw [q3] at hr
      obtain ⟨rfl,q4⟩:=P8 (R.sat_good hr)
      rw [q4] at hr
      obtain ⟨it,caps,rfl,q5⟩:=Qw (R.sat_good hr)
      rw [q5] at hr
      obtain ⟨hmem,q6⟩:=L6 (R.sat_good hr)
      rw [q6,C0,Bm] at hr
      rcases K4.nx_eq n _ with ⟨m,e⟩ | ⟨n1,hn1,e⟩
      ·rw [e] at hr; exact hr.elim
      rw [e,C0,Bm] at hr
      rcases K4.nx_eq n1 _ with ⟨m,e⟩ | ⟨n2,hn2,e'⟩
      ·rw [e] at hr; exact hr.elim
      rw [e'] at hr
      have hr:=Eb hr
      rw [h2] at hr
      obtain ⟨X0,l0,hx0,r0',hl0⟩:=Au.1 hxs
      obtain ⟨X1,l1,rfl,r1',hl1⟩:=Au.1 hl0
      have hl1:=AH.1 hl1
      subst hl1
      have hX0:=BL r0'
      obtain ⟨cs,hX1,rcs⟩:=Iy r1'
      have hps:ps = #[par]:=by cases ps; simp at eps; rw [eps]
      have hres:fn.results = #[.tmp 4]:=by cases hh:fn.results with | mk l=>rw [hh] at ers; simp at ers; rw [ers]
      -- the box
      obtain ⟨ga,fa⟩:=CP g (n':=n1) hn1 (e:=tS) (fr:=(0,0)) (c:=#[X0]) (cs:=.l [.nil .sl]) (by simp [Cs.len]) (Kr _)
       (by have:=Ei (ρ:=ρ) (φ:=φ) (l:=[.nil .sl]) (xs:=[X0]) (Au.2 ⟨X0,[],rfl,r0',AH.2 rfl⟩) (by simp [hX0,C2,Value.oneCell']); simpa using this)
      generalize hW0:w.alloc (.cells #[X0] tS (0,0))=W0 at ga fa
      have hb0:W0.heap[w.heap.size]? = some (.cells #[X0] tS (0,0)):=by rw [←hW0]; exact World.alloc_heap_new w _
      have gb:=ga.push (.deferred (some []))
      have fb:=Fr.trans fa (Fr.push (h:=AJ n h (some (.c (.l [.nil .sl]) false none))) (n:=n1) (φ:=Er φ n (w.heap.size,0,(#[X0]:Array Value).size)) (.deferred (some [])))
      have hs0:W0.heap.size=w.heap.size+1:=by rw [←hW0,World.size_alloc]
      generalize htm:((((#[X0,X1]:Array Value)++Array.replicate (fn.ntmps - 2) undef).setIfInBounds 2 (.pointer (some ⟨w.heap.size,0,none⟩))).setIfInBounds 4 c2).setIfInBounds 6 X1=tm
      have htsz:tm.size=13:=by rw [←htm,hnt]; simp
      have ht2:tm.getD 2 undef = .pointer (some ⟨w.heap.size,0,none⟩):=by rw [←htm,hnt]; simp [Array.getD_eq_getD_getElem?]
      have ht6:tm.getD 6 undef=X1:=by rw [←htm,hnt]; simp [Array.getD_eq_getD_getElem?]
      intro o a K Q hK
      have hcf':(callFunc f #[X0,X1]).run P w = .ok (.enter f #[X0,X1]) w:=by
       have hname':fn.name ≠ "runtime.NumGoroutine":=by simpa using hname
       simp [callFunc,hfn,hname',hbody]
      have hxe:xs = #[X0,X1]:=by cases xs; simp at hx0; rw [hx0]
      rw [hxe,hcf']
      refine (callsIn_wide (n:=0)).1 (callsIn_of_wp_marks hfn hbody trivial ?_ rfl)
      have ev0:Act.eval { tmps:=(#[X0,X1]:Array Value)++Array.replicate (fn.ntmps - (#[X0,X1]:Array Value).size) undef,defers:=[] } (.tmp 0)=X0:=by
       simp [Act.eval,Array.getD_eq_getD_getElem?,Array.getElem?_append]
      have hcl:X0.cells = #[X0]:=by rw [hX0]; rfl
      refine wpIn_seq (wpIn_region_list ?_)
      rw [e0]
      refine wpListIn_plain g1 fun K1 hK1=>BO (x:=.pointer (some ⟨w.heap.size,0,none⟩)) (w':=W0) (by rw [←hW0]; simp only [execOp,p1,ev0]; simp [Instr.box,newVar,F5,hcl]) (hK1 _ _ ?_)
      refine wpListIn_plain g2 fun K2 hK2=>BO (x:=c2) (w':=W0) (by simp [execOp,p2,Act.eval]) (hK2 _ _ ?_)
      refine wpListIn_nil ?_
      refine wpIn_seq (wpIn_seq (wpIn_region_list ?_))
      rw [e1]
      refine wpListIn_plain g3 fun K3 hK3=>BO (x:=X1) (w':=W0) (by simp only [execOp,p3,Act.eval,Act.put,d1,d2,hnt]; simp [Array.getD_eq_getD_getElem?,Array.getElem?_setIfInBounds]) (hK3 _ _ ?_)
      refine wpListIn_nil ?_
      refine wpIn_block (wpIn_rangeFunc fun fn' _=>?_)
      have hact:((({ tmps:=(#[X0,X1]:Array Value)++Array.replicate (fn.ntmps - (#[X0,X1]:Array Value).size) undef,defers:=[] }:Act).put o1.dst (.pointer (some ⟨w.heap.size,0,none⟩))).put o2.dst c2).put o3.dst X1={ tmps:=tm,defers:=[] }:=by
       rw [d1,d2,d3,←htm]; rfl
      rw [hact]
      generalize hWb:W0.alloc (.deferred (some []))=Wb at gb fb
      have hsb:Wb.heap.size=w.heap.size+2:=by rw [←hWb,World.size_alloc,hs0]
      have hDb:Wb.heap[w.heap.size+1]? = some (.deferred (some [])):=by rw [←hWb,←hs0]; exact World.alloc_heap_new _ _
      have hn1':Er φ n (w.heap.size,0,(#[X0]:Array Value).size) n1=none:=gb.at_n
      have gc:=gb.alloc (p:=n1) (n':=n2) hn1' (by omega) (by omega) (.lp f n) rfl (.loop (FG ⟨asg,bod,par,2,13⟩ fn' tm W0.heap.size)) 0
       (fun φ' hle w' hw'=>⟨rfl,⟨asg,bod,par,2,13⟩,fn',tm,W0.heap.size,hA,hw',htsz,by rw [ht2]; exact F7 hle De⟩)
      have fc:=Fr.trans fb (Fr.alloc (h:=AJ n h (some (.c (.l [.nil .sl]) false none))) (w:=Wb) (n:=n1) (n':=n2) (p:=n1) hn1' (by omega) (Nat.le_refl _) (by omega) (some (.lp f n)) (.loop (FG ⟨asg,bod,par,2,13⟩ fn' tm W0.heap.size)) 0)
      generalize hWc:Wb.alloc (.loop (FG ⟨asg,bod,par,2,13⟩ fn' tm W0.heap.size))=Wc at gc fc
      have hsc:Wc.heap.size=w.heap.size+3:=by rw [←hWc,World.size_alloc,hsb]
      have hDc:Wc.heap[w.heap.size+1]? = some (.deferred (some [])):=by rw [←hWc,Below.heap_alloc _ _ _ (by omega)]; exact hDb
      have hφn:φ n=none:=g.at_n
      have hφn1:φ n1=none:=by
       cases hx:φ n1 with
       | none=>rfl
       | some x=>have:=g.dom n1 x hx; omega
      generalize hφc:Er (Er φ n (w.heap.size,0,(#[X0]:Array Value).size)) n1 (Wb.heap.size,0,0)=φc at gc fc
      have hcn1:φc n1=some (w.heap.size+2,0,0):=by rw [←hφc,BU,hsb]
      have hnn:n1≠n:=fun e=>by rw [e] at hn1; omega
      have hcn:φc n=some (w.heap.size,0,1):=by rw [←hφc,Hz hnn,BU]; rfl
      have huD:Wr φc (AJ n1 (AJ n h (some (.c (.l [.nil .sl]) false none))) (some (.lp f n))) (w.heap.size+1):=fun q s tot hq=>by
       rw [←hφc] at hq
       rcases AU hq with ⟨_,e⟩ | ⟨_,hq⟩
       ·simp only [Prod.mk.injEq] at e; omega
       ·rcases AU hq with ⟨_,e⟩ | ⟨_,hq⟩
        ·simp only [Prod.mk.injEq] at e; omega
        ·have:=(g.blk q _ _ _ hq).2; omega
      obtain ⟨fng,cg,hg1,hg2,hg3⟩:=hits it hmem
      have call:=HX hg1 hg2 (by simpa using hg3) (hcf it _ _ n2 _ hr φc Wc (#[.func (.yield (w.heap.size+2)) #[] #[]]++cs) gc (by
       rw [Array.toList_append]
       exact Au.2 ⟨_,cs.toList,rfl,by simp only [AL]; exact ⟨_,_,_,hcn1,rfl⟩,by rw [←hφc]; exact FU (Ba.le_trans (D5 hφn) (D5 hn1')) rcs⟩))
      refine ⟨w.heap.size+2,[{ target:=.collected (w.heap.size+1),args:=#[] }],Wc,{ target:=.fn (.func it) cs,args:=#[.func (.yield (w.heap.size+2)) #[] #[]] },Wc,it,#[.func (.yield (w.heap.size+2)) #[] #[]]++cs,Wc,?_,?_,?_,?_,fun h=>(by cases h),?_⟩
      ·have:=run_enterLoop_outer (P:=P) (w:=W0) fn' tm ps asg bod
       rw [hs0] at this
       show (Instr.enterLoop fn' tm ps asg bod none).run P W0=_
       rw [this,hWb,hps,←hWc,hs0]; rfl
      ·have e6:Act.eval { tmps:=tm,defers:=[] } (.tmp 6) = .func (.func it) #[] cs:=by show tm.getD 6 undef=_; rw [ht6,hX1]
       simp only [resolve,rangeCall,e6,Deferred.ofValue]
       simp [Act.eval]
      ·intro _ _; trivial
      ·simp [invoke,callFunc,hg1,hg2,show fng.name ≠ "runtime.NumGoroutine" by simpa using hg3]
      ·refine (callsIn_wide (n:=0)).2 (call.mono fun e w3 he=>?_)
       cases e with
       | panicked c=>exact he.elim
       | outgrown=>exact he.elim
       | returned u =>
       obtain ⟨v,h3,n3,φ3,hΦ,f3,g3',_⟩:∃ v h1 n1 φ',Wh _ Φ (.rv v h1 n1)∧Fr _ h1 φc φ' n2 n1 Wc w3∧Gam ρ B h1 n1 φ' w3∧AL ρ φ' v u:=he
       have hΦ:(Bu n1 h3 fun o=>Yf o (HH n h3 fun cs _ _=>Gd cs 0 fun sv=>Bx n h3 none fun h=>Bx n1 h none fun h=>.rv sv h n3)).sat Φ:=hΦ
       rw [Bz] at hΦ
       obtain ⟨⟨f',b',hlp⟩,q7⟩:=V5 (R.sat_good hΦ)
       rw [q7,F9] at hΦ
       obtain ⟨cs3,sup3,prev3,hbx,q8⟩:=CG (R.sat_good hΦ)
       rw [q8] at hΦ
       obtain ⟨sv,hsv,q9⟩:=Hu (R.sat_good hΦ)
       rw [q9,C0,Bm,C0,Bm] at hΦ
       have hΦ:Φ (.rv sv (AJ n1 (AJ n h3 none) none) n3):=hΦ
       have h3n:=f3.ext _ _ hcn
       have h3n1:=f3.ext _ _ hcn1
       obtain ⟨_,A3,fn3,tm3,D3,_,hrec,_,_⟩:=g3'.obj n1 _ _ _ _ hlp h3n1
       obtain ⟨c3,e3,fr3,k1,k2,k3,k4,k5⟩:=g3'.obj n _ _ _ _ hbx h3n
       obtain ⟨SV,hSV,rSV,_⟩:=k5 0 sv hsv
       have hD3:w3.heap[w.heap.size+1]? = some (.deferred (some [])):=(f3.old _ (by omega) huD).trans hDc
       have uD3:=huD.step (by omega) f3
       have ul3:Wr φ3 (AJ n1 (AJ n h3 none) none) (w.heap.size+2):=fun q s tot hq=>by
        by_cases e:n1=q
        ·subst e; exact Am _ _ _
        ·rw [Ah _ _ e]
         by_cases e':n=q
         ·subst e'; exact Am _ _ _
         ·rw [Ah _ _ e']
          cases hq':Ar q h3 with
          | none=>rfl
          | some o2 =>
           rcases g3'.sep n1 q _ o2 _ _ _ s tot e hlp hq' h3n1 hq with e2 | e2
           ·cases e2
           ·have:=g3'.sup q n1 o2 _ _ s tot _ _ hq' e2 hlp hq h3n1; cases this
       refine ⟨none,w3.putObj (w.heap.size+2) (.loop { FG A3 fn3 tm3 D3 with state:=.exhausted }),run_endLoop hrec (by simp),?_⟩
       refine wpIn_seq (wpIn_region_list ?_)
       rw [e4]
       generalize hw4:w3.putObj (w.heap.size+2) (.loop { FG A3 fn3 tm3 D3 with state:=.exhausted })=w4
       have hb4:w4.heap[w.heap.size]? = some (.cells c3 e3 fr3):=by rw [←hw4,World.putObj_heap_other (by omega)]; exact k1
       have hD4:w4.heap[w.heap.size+1]? = some (.deferred (some [])):=by rw [←hw4,World.putObj_heap_other (by omega)]; exact hD3
       have hld:(execOp (Act.eval { tmps:=tm,defers:=[{ target:=.collected (w.heap.size+1),args:=#[] }]++[] }) o4).run P w4 = .ok (.value SV) w4:=by
        have e2:Act.eval { tmps:=tm,defers:=[{ target:=.collected (w.heap.size+1),args:=#[] }]++[] } (.tmp 2) = .pointer (some ⟨w.heap.size,0,none⟩):=ht2
        simp only [execOp,p4,e2]
        simp [Instr.loadAt,Instr.sureAddr,loadVar,CX hagg,Hp hb4 hSV]
       refine wpListIn_plain g4 fun K4 hK4=>BO hld (hK4 _ _ ?_)
       refine wpListIn_plain g5 fun K5 hK5=>BO (x:=SV) (w':=w4) (by
        simp only [execOp,p5,Act.eval,Act.put,d4]; simp [Array.getD_eq_getD_getElem?,htsz]) (hK5 _ _ ?_)
       refine wpListIn_nil (wpIn_ret ?_)
       have take:=run_takeDeferred (P:=P) hD4
       rw [d4,d5]
       show LeavesInM Fence.wide 0 P fn _ _ [{ target:=.collected (w.heap.size+1),args:=#[] }] .returning w4
       unfold LeavesInM
       refine ⟨(by intro h; cases h),.inl ⟨w.heap.size+1,_,rfl,take,?_⟩⟩
       unfold LeavesInM LeavesIn
       refine ⟨SV,?_,?_⟩
       ·simp [results,hres,Act.put,htsz,Array.getD_eq_getD_getElem?]
       ·have hna:∀ q,φ q≠none->Ar q (AJ n1 (AJ n h3 none) none)=Ar q h3:=fun q hq=>by
         rw [Ah _ _ (fun e:n1=q=>hq (by rw [←e]; exact hφn1)),Ah _ _ (fun e:n=q=>hq (by rw [←e]; exact hφn))]
        have fz:=((Fr.trans fc f3).show hna).poke (l:=w.heap.size+2) (.loop { FG A3 fn3 tm3 D3 with state:=.exhausted }) (by omega)
        have gz:=(g3'.aside (p:=n)).aside (p:=n1)
        have gz:=gz.poke ul3 (.loop { FG A3 fn3 tm3 D3 with state:=.exhausted }) (fun c e fr h=>by rw [hrec] at h; cases h)
        rw [hw4] at fz gz
        have uDz:Wr φ3 (AJ n1 (AJ n h3 none) none) (w.heap.size+1):=fun q s tot hq=>by
         by_cases e:n1=q
         ·subst e; exact Am _ _ _
         ·rw [Ah _ _ e]
          by_cases e':n=q
          ·subst e'; exact Am _ _ _
          ·rw [Ah _ _ e']; exact uD3 q s tot hq
        exact hK SV _ ⟨sv,_,n3,φ3,hΦ,fz.poke _ (by omega),gz.poke uDz _ (fun c e fr h=>by rw [hD4] at h; cases h),rSV⟩
     next=>cases hsh
    next=>cases hsh
   next=>cases hsh
  next=>cases hsh
 next=>cases hsh
end
end Go.Ev

namespace Go.Ev
set_option linter.unusedVariables false
inductive Ent where
 | code (entry:List V->(S->R)->R) (body:If->S->Heap->K4->R) (res:S->Heap->K4->R)
 | prim (p:Gr)
 | br (k:Nat) (entry:List V->(S->R)->R) (body:If->S->Heap->K4->R) (res:S->Heap->K4->R)
 | ap (f:Nat) (its:List Nat) (rd:Rd)
 | tree (p:Gr)
abbrev DB:=Option Ent
def Ent.toBr (k:Nat) (e:Ent):Ent:=@Ent.rec (fun _=>Ent) (fun en bo re=>.br k en bo re) (fun p=>.prim p) (fun k en bo re=>.br k en bo re) (fun f its rd=>.ap f its rd) (fun p=>.tree p) e
inductive FA where
 | mk (c0 c1 c2 c3 c4 c5 c6 c7 c8 c9 ca cb cc cd ce cf:DB)
def FA.sel (d:D) (p:FA):DB :=
 @FA.rec (fun _=>DB) (fun c0 c1 c2 c3 c4 c5 c6 c7 c8 c9 ca cb cc cd ce cf=>@D.rec (fun _=>DB) c0 c1 c2 c3 c4 c5 c6 c7 c8 c9 ca cb cc cd ce cf d) p
def fag0 (p:FA) (k:DB->R):R:=@FA.rec (fun _=>R) (fun c0 c1 c2 c3 c4 c5 c6 c7 c8 c9 ca cb cc cd ce cf=>k c0) p
def Zw (p:FA) (k:DB->R):R:=@FA.rec (fun _=>R) (fun c0 c1 c2 c3 c4 c5 c6 c7 c8 c9 ca cb cc cd ce cf=>k c1) p
def fag2 (p:FA) (k:DB->R):R:=@FA.rec (fun _=>R) (fun c0 c1 c2 c3 c4 c5 c6 c7 c8 c9 ca cb cc cd ce cf=>k c2) p
def fag3 (p:FA) (k:DB->R):R:=@FA.rec (fun _=>R) (fun c0 c1 c2 c3 c4 c5 c6 c7 c8 c9 ca cb cc cd ce cf=>k c3) p
def fag4 (p:FA) (k:DB->R):R:=@FA.rec (fun _=>R) (fun c0 c1 c2 c3 c4 c5 c6 c7 c8 c9 ca cb cc cd ce cf=>k c4) p
def fag5 (p:FA) (k:DB->R):R:=@FA.rec (fun _=>R) (fun c0 c1 c2 c3 c4 c5 c6 c7 c8 c9 ca cb cc cd ce cf=>k c5) p
def fag6 (p:FA) (k:DB->R):R:=@FA.rec (fun _=>R) (fun c0 c1 c2 c3 c4 c5 c6 c7 c8 c9 ca cb cc cd ce cf=>k c6) p
def fag7 (p:FA) (k:DB->R):R:=@FA.rec (fun _=>R) (fun c0 c1 c2 c3 c4 c5 c6 c7 c8 c9 ca cb cc cd ce cf=>k c7) p
def fag8 (p:FA) (k:DB->R):R:=@FA.rec (fun _=>R) (fun c0 c1 c2 c3 c4 c5 c6 c7 c8 c9 ca cb cc cd ce cf=>k c8) p
def Zr (p:FA) (k:DB->R):R:=@FA.rec (fun _=>R) (fun c0 c1 c2 c3 c4 c5 c6 c7 c8 c9 ca cb cc cd ce cf=>k c9) p
def Z4 (p:FA) (k:DB->R):R:=@FA.rec (fun _=>R) (fun c0 c1 c2 c3 c4 c5 c6 c7 c8 c9 ca cb cc cd ce cf=>k ca) p
def Y2 (p:FA) (k:DB->R):R:=@FA.rec (fun _=>R) (fun c0 c1 c2 c3 c4 c5 c6 c7 c8 c9 ca cb cc cd ce cf=>k cb) p
def XE (p:FA) (k:DB->R):R:=@FA.rec (fun _=>R) (fun c0 c1 c2 c3 c4 c5 c6 c7 c8 c9 ca cb cc cd ce cf=>k cc) p
def Z2 (p:FA) (k:DB->R):R:=@FA.rec (fun _=>R) (fun c0 c1 c2 c3 c4 c5 c6 c7 c8 c9 ca cb cc cd ce cf=>k cd) p
def XI (p:FA) (k:DB->R):R:=@FA.rec (fun _=>R) (fun c0 c1 c2 c3 c4 c5 c6 c7 c8 c9 ca cb cc cd ce cf=>k ce) p
def YD (p:FA) (k:DB->R):R:=@FA.rec (fun _=>R) (fun c0 c1 c2 c3 c4 c5 c6 c7 c8 c9 ca cb cc cd ce cf=>k cf) p
def FA.selK (d:D):FA->(DB->R)->R :=
 @D.rec (fun _=>FA->(DB->R)->R) fag0 Zw fag2 fag3 fag4 fag5 fag6 fag7 fag8 Zr Z4 Y2 XE Z2 XI YD d
theorem FA.selK_eq (d:D) (p:FA) (k:DB->R):FA.selK d p k=k (FA.sel d p):=by
 cases d <;> cases p <;> rfl
inductive FB where
 | mk (c0 c1 c2 c3 c4 c5 c6 c7 c8 c9 ca cb cc cd ce cf:FA)
def FB.sel (d:D) (p:FB):FA :=
 @FB.rec (fun _=>FA) (fun c0 c1 c2 c3 c4 c5 c6 c7 c8 c9 ca cb cc cd ce cf=>@D.rec (fun _=>FA) c0 c1 c2 c3 c4 c5 c6 c7 c8 c9 ca cb cc cd ce cf d) p
def fbg0 (p:FB) (k:FA->R):R:=@FB.rec (fun _=>R) (fun c0 c1 c2 c3 c4 c5 c6 c7 c8 c9 ca cb cc cd ce cf=>k c0) p
def fbg1 (p:FB) (k:FA->R):R:=@FB.rec (fun _=>R) (fun c0 c1 c2 c3 c4 c5 c6 c7 c8 c9 ca cb cc cd ce cf=>k c1) p
def Zz (p:FB) (k:FA->R):R:=@FB.rec (fun _=>R) (fun c0 c1 c2 c3 c4 c5 c6 c7 c8 c9 ca cb cc cd ce cf=>k c2) p
def fbg3 (p:FB) (k:FA->R):R:=@FB.rec (fun _=>R) (fun c0 c1 c2 c3 c4 c5 c6 c7 c8 c9 ca cb cc cd ce cf=>k c3) p
def fbg4 (p:FB) (k:FA->R):R:=@FB.rec (fun _=>R) (fun c0 c1 c2 c3 c4 c5 c6 c7 c8 c9 ca cb cc cd ce cf=>k c4) p
def fbg5 (p:FB) (k:FA->R):R:=@FB.rec (fun _=>R) (fun c0 c1 c2 c3 c4 c5 c6 c7 c8 c9 ca cb cc cd ce cf=>k c5) p
def fbg6 (p:FB) (k:FA->R):R:=@FB.rec (fun _=>R) (fun c0 c1 c2 c3 c4 c5 c6 c7 c8 c9 ca cb cc cd ce cf=>k c6) p
def fbg7 (p:FB) (k:FA->R):R:=@FB.rec (fun _=>R) (fun c0 c1 c2 c3 c4 c5 c6 c7 c8 c9 ca cb cc cd ce cf=>k c7) p
def fbg8 (p:FB) (k:FA->R):R:=@FB.rec (fun _=>R) (fun c0 c1 c2 c3 c4 c5 c6 c7 c8 c9 ca cb cc cd ce cf=>k c8) p
def ZB (p:FB) (k:FA->R):R:=@FB.rec (fun _=>R) (fun c0 c1 c2 c3 c4 c5 c6 c7 c8 c9 ca cb cc cd ce cf=>k c9) p
def YX (p:FB) (k:FA->R):R:=@FB.rec (fun _=>R) (fun c0 c1 c2 c3 c4 c5 c6 c7 c8 c9 ca cb cc cd ce cf=>k ca) p
def XG (p:FB) (k:FA->R):R:=@FB.rec (fun _=>R) (fun c0 c1 c2 c3 c4 c5 c6 c7 c8 c9 ca cb cc cd ce cf=>k cb) p
def Yb (p:FB) (k:FA->R):R:=@FB.rec (fun _=>R) (fun c0 c1 c2 c3 c4 c5 c6 c7 c8 c9 ca cb cc cd ce cf=>k cc) p
def YI (p:FB) (k:FA->R):R:=@FB.rec (fun _=>R) (fun c0 c1 c2 c3 c4 c5 c6 c7 c8 c9 ca cb cc cd ce cf=>k cd) p
def XB (p:FB) (k:FA->R):R:=@FB.rec (fun _=>R) (fun c0 c1 c2 c3 c4 c5 c6 c7 c8 c9 ca cb cc cd ce cf=>k ce) p
def XZ (p:FB) (k:FA->R):R:=@FB.rec (fun _=>R) (fun c0 c1 c2 c3 c4 c5 c6 c7 c8 c9 ca cb cc cd ce cf=>k cf) p
def FB.selK (d:D):FB->(FA->R)->R :=
 @D.rec (fun _=>FB->(FA->R)->R) fbg0 fbg1 Zz fbg3 fbg4 fbg5 fbg6 fbg7 fbg8 ZB YX XG Yb YI XB XZ d
theorem FB.selK_eq (d:D) (p:FB) (k:FA->R):FB.selK d p k=k (FB.sel d p):=by
 cases d <;> cases p <;> rfl
inductive FC where
 | mk (c0 c1 c2 c3 c4 c5 c6 c7 c8 c9 ca cb cc cd ce cf:FB)
def FC.sel (d:D) (p:FC):FB :=
 @FC.rec (fun _=>FB) (fun c0 c1 c2 c3 c4 c5 c6 c7 c8 c9 ca cb cc cd ce cf=>@D.rec (fun _=>FB) c0 c1 c2 c3 c4 c5 c6 c7 c8 c9 ca cb cc cd ce cf d) p
def fcg0 (p:FC) (k:FB->R):R:=@FC.rec (fun _=>R) (fun c0 c1 c2 c3 c4 c5 c6 c7 c8 c9 ca cb cc cd ce cf=>k c0) p
def fcg1 (p:FC) (k:FB->R):R:=@FC.rec (fun _=>R) (fun c0 c1 c2 c3 c4 c5 c6 c7 c8 c9 ca cb cc cd ce cf=>k c1) p
def fcg2 (p:FC) (k:FB->R):R:=@FC.rec (fun _=>R) (fun c0 c1 c2 c3 c4 c5 c6 c7 c8 c9 ca cb cc cd ce cf=>k c2) p
def fcg3 (p:FC) (k:FB->R):R:=@FC.rec (fun _=>R) (fun c0 c1 c2 c3 c4 c5 c6 c7 c8 c9 ca cb cc cd ce cf=>k c3) p
def fcg4 (p:FC) (k:FB->R):R:=@FC.rec (fun _=>R) (fun c0 c1 c2 c3 c4 c5 c6 c7 c8 c9 ca cb cc cd ce cf=>k c4) p
def fcg5 (p:FC) (k:FB->R):R:=@FC.rec (fun _=>R) (fun c0 c1 c2 c3 c4 c5 c6 c7 c8 c9 ca cb cc cd ce cf=>k c5) p
def fcg6 (p:FC) (k:FB->R):R:=@FC.rec (fun _=>R) (fun c0 c1 c2 c3 c4 c5 c6 c7 c8 c9 ca cb cc cd ce cf=>k c6) p
def fcg7 (p:FC) (k:FB->R):R:=@FC.rec (fun _=>R) (fun c0 c1 c2 c3 c4 c5 c6 c7 c8 c9 ca cb cc cd ce cf=>k c7) p
def Zs (p:FC) (k:FB->R):R:=@FC.rec (fun _=>R) (fun c0 c1 c2 c3 c4 c5 c6 c7 c8 c9 ca cb cc cd ce cf=>k c8) p
def fcg9 (p:FC) (k:FB->R):R:=@FC.rec (fun _=>R) (fun c0 c1 c2 c3 c4 c5 c6 c7 c8 c9 ca cb cc cd ce cf=>k c9) p
def Yz (p:FC) (k:FB->R):R:=@FC.rec (fun _=>R) (fun c0 c1 c2 c3 c4 c5 c6 c7 c8 c9 ca cb cc cd ce cf=>k ca) p
def Z6 (p:FC) (k:FB->R):R:=@FC.rec (fun _=>R) (fun c0 c1 c2 c3 c4 c5 c6 c7 c8 c9 ca cb cc cd ce cf=>k cb) p
def XN (p:FC) (k:FB->R):R:=@FC.rec (fun _=>R) (fun c0 c1 c2 c3 c4 c5 c6 c7 c8 c9 ca cb cc cd ce cf=>k cc) p
def YJ (p:FC) (k:FB->R):R:=@FC.rec (fun _=>R) (fun c0 c1 c2 c3 c4 c5 c6 c7 c8 c9 ca cb cc cd ce cf=>k cd) p
def YQ (p:FC) (k:FB->R):R:=@FC.rec (fun _=>R) (fun c0 c1 c2 c3 c4 c5 c6 c7 c8 c9 ca cb cc cd ce cf=>k ce) p
def XH (p:FC) (k:FB->R):R:=@FC.rec (fun _=>R) (fun c0 c1 c2 c3 c4 c5 c6 c7 c8 c9 ca cb cc cd ce cf=>k cf) p
def FC.selK (d:D):FC->(FB->R)->R :=
 @D.rec (fun _=>FC->(FB->R)->R) fcg0 fcg1 fcg2 fcg3 fcg4 fcg5 fcg6 fcg7 Zs fcg9 Yz Z6 XN YJ YQ XH d
theorem FC.selK_eq (d:D) (p:FC) (k:FB->R):FC.selK d p k=k (FC.sel d p):=by
 cases d <;> cases p <;> rfl
def DP (k:K3) (T:FC):DB:=FA.sel k.c (FB.sel k.b (FC.sel k.a T))
def WD (k:K3) (T:FC) (κ:DB->R):R:=@K3.rec (fun _=>R) (fun a b c=>FC.selK a T fun x=>FB.selK b x fun y=>FA.selK c y κ) k
theorem RS (k:K3) (T:FC) (κ:DB->R):WD k T κ=κ (DP k T):=by
 cases k; simp only [WD,DP,FC.selK_eq,FB.selK_eq,FA.selK_eq]
abbrev PJ (ps:List K2):List V->Regs->(Regs->R)->R :=
 @List.rec K2 (fun _=>List V->Regs->(Regs->R)->R) (fun l t κ=>GM l (κ t)) (fun p _ ih l t κ=>Da l fun v l=>NP p t v fun t=>ih l t κ) ps
theorem PO:∀ (ps:List K2) (l:List V) (t:Regs) (κ:Regs->R),PJ ps l t κ=Ts l ps t κ
 | [],l,t,κ=>by cases l <;> rfl
 | p::ps,l,t,κ=>by
  cases l with
  | nil=>rfl
  | cons v l =>
   show NP p t v (fun t=>PJ ps l t κ)=NP p t v fun t=>Ts l ps t κ
   rw [Od,Od,PO]
def Qr (r:R) (res:S->Heap->K4->R):R :=
 @R.rec (fun _=>R) (fun e t h n=>@Ex.rec (fun _=>R) (res t h n) (Bb "") (res t h n) e) (C4 "") (fun w=>.fail w) (fun _ _ a b=>.both a b) r
def L9 (r:R):R:=@R.rec (fun _=>R) (FQ "") (fun v h n=>.rv v h n) (fun w=>.fail w) (FQ "") r
def Wp (v:V) (yes no:R):R :=
 @V.rec (fun _=>R) (fun _=>Unit) (fun _ _=>no) (fun _=>no) (fun _ _=>no) (fun _ _ _ _ _ _=>no) (fun _ _=>no) (fun _ _=>no) (fun _=>no) (fun _=>no) (fun _ _ _=>no) (fun _ _=>no)
  (fun o=>@Ot.rec (fun _=>R) no (fun _=>no) (fun _=>no) yes (fun _ _ _=>no) (fun _ _=>no) no (fun _ _=>no) (fun _ _ _ _=>no) (fun _ _ _ _=>no) (fun _ _ _=>no) (fun _ _=>no) o) () (fun _ _ _ _=>()) v
def apX (f:Nat) (its:List Nat) (rd:Rd) (cf:If) (args:List V) (h:Heap) (n:K4):R :=
 Da args fun v l=>Wp v (Da l fun b l=>Da l fun x l=>GM l (rd cf b x h n)) (Xc f its cf args h n)
def SN (cf:If) (o:DB) (args:List V) (h:Heap) (n:K4):R :=
 @Option.rec Ent (fun _=>R) (.fail "") (fun e=>@Ent.rec (fun _=>R) (fun entry body res=>entry args fun t=>Qr (body cf t h n) res) (fun p=>L9 (p args h n)) (fun k entry body res=>L9 (Zi k (fun hs=>entry args fun t=>Qr (body cf t hs n) res) args h n)) (fun f its rd=>apX f its rd cf args h n) (fun p=>p args h n) e) o
def Bw (T:FC) (m:Nat):If :=
 @Nat.rec (fun _=>If) (FQ "") (fun _ ih f args h n=>WD f T fun o=>SN ih o args h n) m
abbrev Xr (sm:SM) (t:Regs):S:=@List.rec (K2×SL) (fun _=>S) Fi (fun x _ ih=>S.put x.2 ih (Bo x.1 t)) sm
theorem RY {t:Regs}:∀ {sm:SM},QD sm=true->∀ {p:K2} {s:SL},Cx p sm=some s->S.get s (Xr sm t)=Bo p t
 | [],_,p,s,h=>by cases h
 | x::l,hok,p,s,h=>by
  simp only [QD,Bool.and_eq_true] at hok
  have e1:Xr (x::l) t=S.put x.2 (Xr l t) (Bo x.1 t):=rfl
  rw [e1]
  simp only [Cx] at h
  cases hb:K2.beq x.1 p with
  | true =>
   rw [hb] at h
   have h:some x.2=some s:=h
   cases h
   rw [S.get_put_same,K2.beq_iff.1 hb]
  | false =>
   rw [hb] at h
   have h:Cx p l=some s:=h
   have hne:x.2≠s:=fun e=>by
    have:=List.all_eq_true.1 hok.1 _ (HD h)
    rw [←e] at this
    simp [SL.beq,O8.beq_self,O4.beq_self] at this
   rw [S.get_put_ne _ _ hne]
   exact RY hok.2 h
abbrev Ug (sm:SM) (r:ARes) (t:S) (h:Heap) (κ:V->R):R :=
 @ARes.rec (fun _=>R) (fun p=>Bt sm [] t (.t p) κ) (fun p m=>Bt sm [] t (.t p) fun v=>Hy v fun q off=>HH q h fun cs _ _ =>
  @Option.rec Nat (fun _=>R) (Gd cs off κ) (fun m=>Bs cs off m fun y=>E0 y fun l=>κ (.agg l)) m) r
abbrev Ry (sm:SM) (rs:List ARes) (t:S) (h:Heap):(List V->R)->R :=
 @List.rec ARes (fun _=>(List V->R)->R) (fun κ=>κ []) (fun r _ ih κ=>Ug sm r t h fun v=>ih fun vs=>κ (v::vs)) rs
abbrev Pb (sm:SM) (rs:List ARes) (t:S) (h:Heap) (n:K4):R :=
 Ry sm rs t h fun l=>@List.rec V (fun _=>R) (.rv (.tup []) h n) (fun v vs _=>@List.rec V (fun _=>R) (.rv v h n) (fun _ _ _=>.rv (.tup l) h n) vs) l
abbrev denF (sm:SM) (a:AFn):Ent:=@AFn.rec (fun _=>Ent) (fun ps c rs=>.code (fun l κ=>PJ ps l Lf fun t=>κ (Xr sm t)) (fun cf t h n=>HQ sm cf c r0 [] t h n) (fun t h n=>Pb sm rs t h n)) a
def ARes.reg (r:ARes):K2:=@ARes.rec (fun _=>K2) (fun p=>p) (fun p _=>p) r
def okF (sm:SM) (a:AFn):Bool:=QD sm&&(KC sm a.code (fun _=>true) []&&a.rs.all fun r=>I1 sm r.reg)
abbrev Y7 (sm:SM) (o:Option AFn):DB:=@Option.rec AFn (fun _=>DB) none (fun a=>some (denF sm a)) o
def okO (sm:SM) (o:Option AFn):Bool:=@Option.rec AFn (fun _=>Bool) false (fun a=>okF sm a) o
section
variable {P:Program} {ρ:Env} {B:Nat}
def Af (P:Program) (f:FuncId) (e:Ent):Prop:=∃ sm:SM,Y7 sm (KK P f)=some e∧okO sm (KK P f)=true
theorem Af.mk {f:FuncId} {e:Ent} (sm:SM) (h:Y7 sm (KK P f)=some e) (k:okO sm (KK P f)=true):Af P f e:=⟨sm,h,k⟩
def BrOf (P:Program) (f:FuncId) (e:Ent):Prop:=∃ k en bo re,e = .br k en bo re∧Af P f (.code en bo re)
def Cd (P:Program) (ρ:Env) (f:FuncId) (e:Ent):Prop:=∃ its rd A,e = .ap f its rd∧ρ.ap f=some A∧M6 P f=some A∧TF P A=some rd ∧ ∀ g∈its,Kx P g
def Ql (P:Program) (ρ:Env) (B:Nat) (f:FuncId) (p:Gr):Prop :=
 ∀ args h n (Φ:R->Prop),(p args h n).sat Φ->∀ φ w (xs:Array Value),Gam ρ B h n φ w->BC ρ φ args xs.toList →
  HR P f xs w fun x w'=>∃ v h1 n1 φ',Φ (.rv v h1 n1)∧Fr h h1 φ φ' n n1 w w'∧Gam ρ B h1 n1 φ' w'∧AL ρ φ' v x
def MI (P:Program) (ρ:Env) (B:Nat) (f:FuncId) (e:Ent):Prop:=(Af P f e∨BrOf P f e)∨((∃ p,e = .prim p∧EE P ρ B f p)∨(Cd P ρ f e ∨ ∃ p,e = .tree p∧Ql P ρ B f p))
def GI (P:Program) (ρ:Env) (B:Nat) (T:FC):Prop:=(∀ f e,DP (B2 f) T=some e->MI P ρ B f e) ∧ ∀ f A,ρ.ap f=some A->∃ e,DP (B2 f) T=some e∧Cd P ρ f e
theorem MJ {r:R} {Φ:R->Prop} (h:(L9 r).sat Φ):∃ v h1 n1,r = .rv v h1 n1∧Φ (.rv v h1 n1):=by
 cases r with
 | rv v h1 n1=>exact ⟨v,h1,n1,rfl,h⟩
 | _=>exact h.elim
theorem U5 {sm:SM} {r:ARes} {t:Regs} {t':S} (ri:RI sm [] [] t t') (hk:I1 sm r.reg=true) (hp:Heap) (κ:V->R):Ug sm r t' hp κ=LS r t hp κ:=by
 have kn:∀ p,I1 sm p=true->K9 sm [] p=true:=fun p h=>by unfold K9; rw [h,Bool.or_true]
 cases r with
 | tmp p=>show Bt sm [] t' (.t p) κ=I0 p t κ; rw [ri.tell (kn p hk),CV]
 | cel p m =>
  show Bt sm [] t' (.t p) _=I0 p t _
  rw [ri.tell (kn p hk),CV,F9]
theorem Pa {sm:SM} {t:Regs} {t':S} (ri:RI sm [] [] t t') {hp:Heap}:∀ {rs:List ARes} {κ:List V->R},(∀ r∈rs,I1 sm r.reg=true)->Ry sm rs t' hp κ=Ku rs t hp κ
 | [],κ,_=>rfl
 | r::rs,κ,h=>by
  have e1:Ry sm (r::rs) t' hp κ=Ug sm r t' hp fun v=>Ry sm rs t' hp fun vs=>κ (v::vs):=rfl
  have e2:Ku (r::rs) t hp κ=LS r t hp fun v=>Ku rs t hp fun vs=>κ (v::vs):=rfl
  rw [e1,e2,U5 ri (h r (List.mem_cons_self ..))]
  congr 1; funext v
  exact Pa ri fun r hr=>h r (List.mem_cons_of_mem _ hr)
theorem Ue {sm:SM} {t:Regs} {t':S} (ri:RI sm [] [] t t') {hp:Heap} {n:K4} {rs:List ARes} (h:∀ r∈rs,I1 sm r.reg=true):Pb sm rs t' hp n=Qo rs t hp n:=Pa ri h
def YL (res:S->Heap->K4->R) (Φ:R->Prop):R->Prop
 | .ok .nrm t h n=>(res t h n).sat Φ
 | .ok .ret t h n=>(res t h n).sat Φ
 | _=>False
theorem Ld {res:S->Heap->K4->R} {Φ:R->Prop}:∀ {r:R},(Qr r res).sat Φ->r.sat (YL res Φ)
 | .ok e t h n,hs=>by
  cases e with
  | nrm=>exact hs
  | ret=>exact hs
  | exit j=>exact hs.elim
 | .rv _ _ _,hs=>hs.elim
 | .fail _,hs=>hs.elim
 | .both a b,hs=>⟨Ld (r:=a) hs.1,Ld (r:=b) hs.2⟩
theorem VR {r:ARes} {t:Regs} {h:Heap} {κ:V->R} (hg:(LS r t h κ).good):∃ v,LS r t h κ=κ v:=by
 cases r with
 | tmp p=>exact ⟨_,CV p t κ⟩
 | cel p m =>
  have e1:LS (.cel p m) t h κ=Hy (Bo p t) fun q off=>I4 q h fun cs _ _ =>
    @Option.rec Nat (fun _=>R) (Gd cs off κ) (fun m=>Bs cs off m fun y=>E0 y fun l=>κ (.agg l)) m:=CV p t _
  rw [e1] at hg
  obtain ⟨q,off,hv,e2⟩:=CA hg
  rw [e2] at hg
  obtain ⟨cs,sup,prev,hq,e3⟩:=CG hg
  rw [e3] at hg
  cases m with
  | none =>
   obtain ⟨v,_,e4⟩:=Hu (show R.good (Gd cs off κ) from hg)
   exact ⟨v,e1.trans (e2.trans (e3.trans e4))⟩
  | some m =>
   obtain ⟨hle,y,hyl,hya,e4⟩:=C6 (show R.good (Bs cs off m fun y=>E0 y fun l=>κ (.agg l)) from hg)
   obtain ⟨l,e5,_,_⟩:=Fa y fun l=>κ (.agg l)
   exact ⟨.agg l,e1.trans (e2.trans (e3.trans (Eq.trans e4 e5)))⟩
theorem Ri:∀ {rs:List ARes} {t:Regs} {h:Heap} {κ:List V->R},(Ku rs t h κ).good->∃ vs,Ku rs t h κ=κ vs
 | [],t,h,κ,_=>⟨[],rfl⟩
 | r::rs,t,h,κ,hg=>by
  have hg:R.good (LS r t h fun v=>Ku rs t h fun vs=>κ (v::vs)):=hg
  obtain ⟨v,e1⟩:=VR hg
  rw [e1] at hg
  obtain ⟨vs,e2⟩:=Ri hg
  exact ⟨v::vs,Eq.trans e1 e2⟩
theorem Vu {rs:List ARes} {t:Regs} {h:Heap} {n:K4} (hg:(Qo rs t h n).good):∃ v,Qo rs t h n = .rv v h n:=by
 obtain ⟨vs,e⟩:=Ri (show R.good (Ku rs t h _) from hg)
 have e:Qo rs t h n=_:=e
 match vs,e with
 | [],e=>exact ⟨_,e⟩
 | [u],e=>exact ⟨_,e⟩
 | u::u'::us,e=>exact ⟨_,e⟩
theorem MA (hρ:Bp ρ) (hm:P.follows .mixedOrders=true) {cf:CF} {cf2:If} (hct:IY P ρ B cf) (hR:J5 P ρ B cf) (h2:∀ f,cf2 (B2 f)=cf f) {f:FuncId} {e:Ent} (he:Af P f e) {args:List V} {h:Heap} {n:K4} {Φ:R->Prop}
  (hr:(SN cf2 (some e) args h n).sat Φ) {φ:Ba} {w:World} {xs:Array Value} (g:Gam ρ B h n φ w) (hxs:BC ρ φ args xs.toList) :
  HR P f xs w fun x w'=>∃ v h1 n1 φ',Φ (.rv v h1 n1)∧Fr h h1 φ φ' n n1 w w'∧Gam ρ B h1 n1 φ' w'∧AL ρ φ' v x:=by
 obtain ⟨sm,hd,hok⟩:=he
 cases hf:KK P f with
 | none=>rw [hf] at hd; cases hd
 | some a =>
  rw [hf] at hd hok
  obtain ⟨fn,c,ps,rs,hfn,hb,hps,hrs,hname,rfl⟩:=Qc hf
  have hd:some (Ent.code (fun l κ=>PJ ps l Lf fun t=>κ (Xr sm t)) (fun cf t h n=>HQ sm cf (Bl P fn.ntmps c) r0 [] t h n) (fun t h n=>Pb sm rs t h n))=some e:=hd
  cases hd
  have hok:(QD sm&&(KC sm (Bl P fn.ntmps c) (fun _=>true) []&&rs.all fun r=>I1 sm r.reg))=true:=hok
  rw [Bool.and_eq_true,Bool.and_eq_true] at hok
  obtain ⟨hsm,hok⟩:=hok
  have inj:∀ {p q s},Cx p sm=some s->Cx q sm=some s->p=q:=fun h h'=>OF hsm h h'
  have hr:(PJ ps args Lf (fun t=>Qr (HQ sm cf2 (Bl P fn.ntmps c) r0 [] (Xr sm t) h n) fun t h n=>Pb sm rs t h n)).sat Φ:=hr
  rw [PO] at hr
  obtain ⟨hlen,t0,e2,H0⟩:=Nq (k:=0) (fun i s hi=>by
   obtain ⟨hi',hi2⟩:=List.getElem?_eq_some_iff.1 hi
   simp at hi2; omega) hps (R.sat_good hr)
  rw [e2] at hr
  simp only [List.length_range] at hlen
  have hxl:xs.size=args.length:=by have:=Bj hxs; simpa using this
  have hxN:xs.size≤fn.ntmps:=by
   rcases Nat.eq_zero_or_pos xs.size with h0 | h0
   ·omega
   ·have:=MV hps (xs.size - 1) (List.mem_range.2 (by omega)); omega
  have hT:TR ρ fn.ntmps φ t0 { tmps:=xs++Array.replicate (fn.ntmps - xs.size) undef,defers:=[] }:={
   size:=by simp; omega
   defers:=rfl
   at_:=fun s p hs hp=>by
    rw [H0 s p hp,if_pos (Nat.zero_le _),Nat.sub_zero,Pq]
    show AL ρ φ _ ((xs++Array.replicate (fn.ntmps - xs.size) undef).getD s undef)
    rw [Array.getD_eq_getD_getElem?]
    by_cases hsx:s<xs.size
    ·rw [Array.getElem?_append_left hsx]
     have hsa:s<args.length:=by omega
     rw [List.getElem?_eq_getElem hsa]
     obtain ⟨x,hx,hrx⟩:=(Cy.1 hxs).2 s _ (List.getElem?_eq_getElem hsa)
     rw [Array.getElem?_toList] at hx
     rw [hx]; exact hrx
    ·rw [Array.getElem?_append_right (by omega),Array.getElem?_replicate,if_pos (by omega),List.getElem?_eq_none (by omega)]
     exact F2 }
  have hx:=Ld hr
  have hOK:=(Xe (N:=fn.ntmps) (sm:=sm) hρ hm hct hR h2 c).join hok.1 (RI.start inj fun p s hs=>RY hsm hs) hx
  intro o a K Q hK
  have hcf':(callFunc f xs).run P w = .ok (.enter f xs) w:=by
   have hname':fn.name ≠ "runtime.NumGoroutine":=by simpa using hname
   simp [callFunc,hfn,hname',hb]
  rw [hcf']
  refine calls_of_wp hfn hb (hOK φ _ w hT g _ fun e t1 h2' n2 hres φ' a' w' tf f1 g1 T1 hk=>?_)
  have fin:(Pb sm rs t1 h2' n2).sat Φ->∃ X,(results fn a'.tmps).run P w' = .ok X w'∧K (a.put o.dst X) w':=fun hres=>by
   rw [Ue (RI.start inj hk) fun r hr=>List.all_eq_true.1 hok.2 r hr] at hres
   obtain ⟨v,hv⟩:=Vu (R.sat_good hres)
   obtain ⟨_,_,Hres⟩:=Se (ρ:=ρ) (B:=B) hrs hv
   rw [hv] at hres
   obtain ⟨X,hX,hrX⟩:=Hres φ' a' w' T1 g1
   exact ⟨X,hX,hK X w' ⟨v,h2',n2,φ',hres,f1,g1,hrX⟩⟩
  cases e with
  | nrm=>obtain ⟨X,hX,hKX⟩:=fin hres; exact ⟨T1.defers,X,hX,hKX⟩
  | exit id=>exact hres.elim
  | ret=>obtain ⟨X,hX,hKX⟩:=fin hres; exact ⟨T1.defers,X,hX,hKX⟩
theorem HF (hρ:Bp ρ) (hm:P.follows .mixedOrders=true) {T:FC} (hT:GI P ρ B T):∀ m,IY P ρ B (fun f=>Bw T m (B2 f))∧J5 P ρ B (fun f=>Bw T m (B2 f)):=by
 intro m
 induction m with
 | zero=>exact ⟨fun f args h n Φ hr=>hr.elim,fun f A fn hA box x h n Φ hr=>hr.elim⟩
 | succ m ih =>
  obtain ⟨hct,hR⟩:=ih
  have e1:∀ f args h n,Bw T (m+1) (B2 f) args h n=SN (Bw T m) (DP (B2 f) T) args h n:=fun f args h n=>RS (B2 f) T fun o=>SN (Bw T m) o args h n
  refine ⟨fun f args h n Φ hr φ w xs g hxs=>?_,fun f A fn hA box x h n Φ hr φ w tmps X l D g hrec unc hsz hbox hX=>?_⟩
  ·have hr:(Bw T (m+1) (B2 f) args h n).sat Φ:=hr
   rw [e1] at hr
   cases ho:DP (B2 f) T with
   | none=>rw [ho] at hr; exact hr.elim
   | some e =>
    rw [ho] at hr
    rcases hT.1 f e ho with (he | ⟨k,en,bo,re,rfl,he⟩) | (⟨p,rfl,hp⟩ | (⟨its,rd,A,rfl,hA,h1,h2,h3⟩ | ⟨p,rfl,hp⟩))
    ·exact MA hρ hm hct hR (fun _=>rfl) he hr g hxs
    ·obtain ⟨v,h1,n1,hr,hΦ⟩:=MJ (show (L9 (Zi k (fun hs=>en args fun t=>Qr (bo (Bw T m) t hs n) re) args h n)).sat Φ from hr)
     intro o a K Q hK
     exact Xh hr g hxs (fun hs Φ hsat gs=>MA hρ hm hct hR (fun _=>rfl) he (h:=hs) hsat gs hxs) o a K Q fun x w' ⟨φ',f1,g1,r1⟩=>hK x w' ⟨v,h1,n1,φ',hΦ,f1,g1,r1⟩
    ·obtain ⟨v,h1,n1,hr,hΦ⟩:=MJ (show (L9 (p args h n)).sat Φ from hr)
     intro o a K Q hK
     exact hp args h n v h1 n1 hr φ w xs g hxs o a K Q fun x w' ⟨φ',f1,g1,r1⟩=>hK x w' ⟨v,h1,n1,φ',hΦ,f1,g1,r1⟩
    ·have hr:(apX f its rd (Bw T m) args h n).sat Φ:=hr
     unfold apX at hr
     obtain ⟨v,l,hl,q1⟩:=Br (R.sat_good hr)
     rw [q1] at hr
     subst hl
     by_cases hv:v = .oth .no
     ·subst hv
      obtain ⟨y,ys,_,hy,_⟩:=Au.1 hxs
      simp only [AL] at hy
     ·have e2:∀ A C:R,Wp v A C=C:=fun A C=>by
       cases v with
       | oth o=>cases o with
        | no=>exact absurd rfl hv
        | _=>rfl
       | _=>rfl
      rw [e2] at hr
      exact XM hA h1 h3 hct (fun _=>rfl) hr g hxs
    ·exact hp args h n Φ hr φ w xs g hxs
  ·obtain ⟨e,ho,its,rd,A',rfl,hA',h1,h2,h3⟩:=hT.2 f A hA
   rw [hA] at hA'; cases hA'
   have hr:(Bw T (m+1) (B2 f) [.oth .no,.ptr box 0,x] h n).sat Φ:=hr
   rw [e1,ho] at hr
   have hr:(rd (Bw T m) (.ptr box 0) x h n).sat Φ:=hr
   exact Y1 hρ hct.ok (fun _=>rfl) h2 hr g hrec unc hsz hbox hX
theorem V1 (hρ:Bp ρ) (hm:P.follows .mixedOrders=true) {T:FC} (hT:GI P ρ B T) (m:Nat):Ea P ρ B fun f=>Bw T m (B2 f):=(HF hρ hm hT m).1.ok
end
end Go.Ev

namespace Go.Ev
open Go.RowKit
set_option linter.unusedVariables false
abbrev Ax (w:Bool) (v:V) (h:Heap) (n:K4) (F:KV->R) (κ:KV):R:=gd w v F κ h n
abbrev Ab (v:V):R:=.rv v AS ⟨.d0,.d0,.d0,.d0⟩
abbrev alY (b:K4) (j:D) (h:Heap) (F:K4->R) (κ:KV):R:=b.at j fun r=>Bu r h fun x=>I3 x (B9 (F r) κ)
abbrev J3 (b:K4) (j:D) (h:Heap) (F:K4->R) (κ:V->Heap->R):R:=alY b j h F fun v h _=>κ v h
abbrev EM (b:K4) (j:D) (h:Heap) (κ:R):R:=b.at j fun r=>Bu r h fun x=>I3 x κ
abbrev rnX (b:K4) (j:D) (h:Heap) (F:Heap->R) (κ:V->R):R:=b.at j fun r=>Bu r h fun x=>Wx x fun ob=>Bx r AS (some ob) fun hx=>Ad (F hx) κ
abbrev ED (m:Nat) (v:V) (h:Heap) (κ:V->R):R:=Hy v fun q off=>HH q h fun cs _ _=>Bs cs off m fun y=>E0 y fun l=>κ (.agg l)
abbrev U:V:=Cn
abbrev Q0:SQ:=.mk U U U U
abbrev g0 (t:S) (k:V->R):R:=@S.rec (fun _=>R) (fun c0 c1 c2 c3 c4 c5 c6 c7=>@SQ.rec (fun _=>R) (fun d0 d1 d2 d3=>k d0) c0) t
abbrev w0 (t:S) (v:V) (k:S->R):R:=@S.rec (fun _=>R) (fun c0 c1 c2 c3 c4 c5 c6 c7=>@SQ.rec (fun _=>R) (fun d0 d1 d2 d3=>k (.mk (.mk v d1 d2 d3) c1 c2 c3 c4 c5 c6 c7)) c0) t
abbrev g1 (t:S) (k:V->R):R:=@S.rec (fun _=>R) (fun c0 c1 c2 c3 c4 c5 c6 c7=>@SQ.rec (fun _=>R) (fun d0 d1 d2 d3=>k d1) c0) t
abbrev w1 (t:S) (v:V) (k:S->R):R:=@S.rec (fun _=>R) (fun c0 c1 c2 c3 c4 c5 c6 c7=>@SQ.rec (fun _=>R) (fun d0 d1 d2 d3=>k (.mk (.mk d0 v d2 d3) c1 c2 c3 c4 c5 c6 c7)) c0) t
abbrev g2 (t:S) (k:V->R):R:=@S.rec (fun _=>R) (fun c0 c1 c2 c3 c4 c5 c6 c7=>@SQ.rec (fun _=>R) (fun d0 d1 d2 d3=>k d2) c0) t
abbrev w2 (t:S) (v:V) (k:S->R):R:=@S.rec (fun _=>R) (fun c0 c1 c2 c3 c4 c5 c6 c7=>@SQ.rec (fun _=>R) (fun d0 d1 d2 d3=>k (.mk (.mk d0 d1 v d3) c1 c2 c3 c4 c5 c6 c7)) c0) t
abbrev g3 (t:S) (k:V->R):R:=@S.rec (fun _=>R) (fun c0 c1 c2 c3 c4 c5 c6 c7=>@SQ.rec (fun _=>R) (fun d0 d1 d2 d3=>k d3) c0) t
abbrev w3 (t:S) (v:V) (k:S->R):R:=@S.rec (fun _=>R) (fun c0 c1 c2 c3 c4 c5 c6 c7=>@SQ.rec (fun _=>R) (fun d0 d1 d2 d3=>k (.mk (.mk d0 d1 d2 v) c1 c2 c3 c4 c5 c6 c7)) c0) t
abbrev g4 (t:S) (k:V->R):R:=@S.rec (fun _=>R) (fun c0 c1 c2 c3 c4 c5 c6 c7=>@SQ.rec (fun _=>R) (fun d0 d1 d2 d3=>k d0) c1) t
abbrev w4 (t:S) (v:V) (k:S->R):R:=@S.rec (fun _=>R) (fun c0 c1 c2 c3 c4 c5 c6 c7=>@SQ.rec (fun _=>R) (fun d0 d1 d2 d3=>k (.mk c0 (.mk v d1 d2 d3) c2 c3 c4 c5 c6 c7)) c1) t
abbrev g5 (t:S) (k:V->R):R:=@S.rec (fun _=>R) (fun c0 c1 c2 c3 c4 c5 c6 c7=>@SQ.rec (fun _=>R) (fun d0 d1 d2 d3=>k d1) c1) t
abbrev w5 (t:S) (v:V) (k:S->R):R:=@S.rec (fun _=>R) (fun c0 c1 c2 c3 c4 c5 c6 c7=>@SQ.rec (fun _=>R) (fun d0 d1 d2 d3=>k (.mk c0 (.mk d0 v d2 d3) c2 c3 c4 c5 c6 c7)) c1) t
abbrev g6 (t:S) (k:V->R):R:=@S.rec (fun _=>R) (fun c0 c1 c2 c3 c4 c5 c6 c7=>@SQ.rec (fun _=>R) (fun d0 d1 d2 d3=>k d2) c1) t
abbrev w6 (t:S) (v:V) (k:S->R):R:=@S.rec (fun _=>R) (fun c0 c1 c2 c3 c4 c5 c6 c7=>@SQ.rec (fun _=>R) (fun d0 d1 d2 d3=>k (.mk c0 (.mk d0 d1 v d3) c2 c3 c4 c5 c6 c7)) c1) t
abbrev g7 (t:S) (k:V->R):R:=@S.rec (fun _=>R) (fun c0 c1 c2 c3 c4 c5 c6 c7=>@SQ.rec (fun _=>R) (fun d0 d1 d2 d3=>k d3) c1) t
abbrev w7 (t:S) (v:V) (k:S->R):R:=@S.rec (fun _=>R) (fun c0 c1 c2 c3 c4 c5 c6 c7=>@SQ.rec (fun _=>R) (fun d0 d1 d2 d3=>k (.mk c0 (.mk d0 d1 d2 v) c2 c3 c4 c5 c6 c7)) c1) t
abbrev g8 (t:S) (k:V->R):R:=@S.rec (fun _=>R) (fun c0 c1 c2 c3 c4 c5 c6 c7=>@SQ.rec (fun _=>R) (fun d0 d1 d2 d3=>k d0) c2) t
abbrev w8 (t:S) (v:V) (k:S->R):R:=@S.rec (fun _=>R) (fun c0 c1 c2 c3 c4 c5 c6 c7=>@SQ.rec (fun _=>R) (fun d0 d1 d2 d3=>k (.mk c0 c1 (.mk v d1 d2 d3) c3 c4 c5 c6 c7)) c2) t
abbrev g9 (t:S) (k:V->R):R:=@S.rec (fun _=>R) (fun c0 c1 c2 c3 c4 c5 c6 c7=>@SQ.rec (fun _=>R) (fun d0 d1 d2 d3=>k d1) c2) t
abbrev w9 (t:S) (v:V) (k:S->R):R:=@S.rec (fun _=>R) (fun c0 c1 c2 c3 c4 c5 c6 c7=>@SQ.rec (fun _=>R) (fun d0 d1 d2 d3=>k (.mk c0 c1 (.mk d0 v d2 d3) c3 c4 c5 c6 c7)) c2) t
abbrev Rs (t:S) (k:V->R):R:=@S.rec (fun _=>R) (fun c0 c1 c2 c3 c4 c5 c6 c7=>@SQ.rec (fun _=>R) (fun d0 d1 d2 d3=>k d2) c2) t
abbrev S6 (t:S) (v:V) (k:S->R):R:=@S.rec (fun _=>R) (fun c0 c1 c2 c3 c4 c5 c6 c7=>@SQ.rec (fun _=>R) (fun d0 d1 d2 d3=>k (.mk c0 c1 (.mk d0 d1 v d3) c3 c4 c5 c6 c7)) c2) t
abbrev Tx (t:S) (k:V->R):R:=@S.rec (fun _=>R) (fun c0 c1 c2 c3 c4 c5 c6 c7=>@SQ.rec (fun _=>R) (fun d0 d1 d2 d3=>k d3) c2) t
abbrev Tw (t:S) (v:V) (k:S->R):R:=@S.rec (fun _=>R) (fun c0 c1 c2 c3 c4 c5 c6 c7=>@SQ.rec (fun _=>R) (fun d0 d1 d2 d3=>k (.mk c0 c1 (.mk d0 d1 d2 v) c3 c4 c5 c6 c7)) c2) t
abbrev Wz (t:S) (k:V->R):R:=@S.rec (fun _=>R) (fun c0 c1 c2 c3 c4 c5 c6 c7=>@SQ.rec (fun _=>R) (fun d0 d1 d2 d3=>k d0) c3) t
abbrev Wu (t:S) (v:V) (k:S->R):R:=@S.rec (fun _=>R) (fun c0 c1 c2 c3 c4 c5 c6 c7=>@SQ.rec (fun _=>R) (fun d0 d1 d2 d3=>k (.mk c0 c1 c2 (.mk v d1 d2 d3) c4 c5 c6 c7)) c3) t
abbrev Zn (t:S) (k:V->R):R:=@S.rec (fun _=>R) (fun c0 c1 c2 c3 c4 c5 c6 c7=>@SQ.rec (fun _=>R) (fun d0 d1 d2 d3=>k d1) c3) t
abbrev Zo (t:S) (v:V) (k:S->R):R:=@S.rec (fun _=>R) (fun c0 c1 c2 c3 c4 c5 c6 c7=>@SQ.rec (fun _=>R) (fun d0 d1 d2 d3=>k (.mk c0 c1 c2 (.mk d0 v d2 d3) c4 c5 c6 c7)) c3) t
abbrev g14 (t:S) (k:V->R):R:=@S.rec (fun _=>R) (fun c0 c1 c2 c3 c4 c5 c6 c7=>@SQ.rec (fun _=>R) (fun d0 d1 d2 d3=>k d2) c3) t
abbrev w14 (t:S) (v:V) (k:S->R):R:=@S.rec (fun _=>R) (fun c0 c1 c2 c3 c4 c5 c6 c7=>@SQ.rec (fun _=>R) (fun d0 d1 d2 d3=>k (.mk c0 c1 c2 (.mk d0 d1 v d3) c4 c5 c6 c7)) c3) t
abbrev g15 (t:S) (k:V->R):R:=@S.rec (fun _=>R) (fun c0 c1 c2 c3 c4 c5 c6 c7=>@SQ.rec (fun _=>R) (fun d0 d1 d2 d3=>k d3) c3) t
abbrev w15 (t:S) (v:V) (k:S->R):R:=@S.rec (fun _=>R) (fun c0 c1 c2 c3 c4 c5 c6 c7=>@SQ.rec (fun _=>R) (fun d0 d1 d2 d3=>k (.mk c0 c1 c2 (.mk d0 d1 d2 v) c4 c5 c6 c7)) c3) t
abbrev g17 (t:S) (k:V->R):R:=@S.rec (fun _=>R) (fun c0 c1 c2 c3 c4 c5 c6 c7=>@SQ.rec (fun _=>R) (fun d0 d1 d2 d3=>k d1) c4) t
section
variable {P:Program} {ρ:Env} {B:Nat}
def Ae (P:Program) (ρ:Env) (B:Nat) (f:FuncId) (o:DB):Prop:=∀ e,o=some e->MI P ρ B f e
theorem Ae.no {f:FuncId}:Ae P ρ B f none:=fun e h=>by cases h
theorem Ae.fn {f:FuncId} {e:Ent} (h:Af P f e):Ae P ρ B f (some e):=fun e' h'=>by cases h'; exact .inl (.inl h)
theorem Ae.br {f:FuncId} {k:Nat} {en:List V->(S->R)->R} {bo:If->S->Heap->K4->R} {re:S->Heap->K4->R} (h:Af P f (.code en bo re)):Ae P ρ B f (some (.br k en bo re)):=fun e' h'=>by cases h'; exact .inl (.inr ⟨k,en,bo,re,rfl,h⟩)
theorem Ae.brX {f:FuncId} {e:Ent} {k:Nat} (h:Af P f e) (he:∃ en bo re,e = .code en bo re):Ae P ρ B f (some (e.toBr k)):=by
 obtain ⟨en,bo,re,rfl⟩:=he
 exact Ae.br h
theorem Ae.pr {f:FuncId} {p:Gr} (h:EE P ρ B f p):Ae P ρ B f (some (.prim p)):=fun e' h'=>by cases h'; exact .inr (.inl ⟨p,rfl,h⟩)
def B5 (s:String):Gr:=fun _ _ _=>.fail s
theorem Ae.noP {f:FuncId} (s:String):Ae P ρ B f (some (.prim (B5 s))):=Ae.pr fun args h n v h1 n1 hx=>by cases hx
theorem Ae.ap {f:FuncId} {its:List Nat} {rd:Rd} {A:ApC} (hA:ρ.ap f=some A) (h1:M6 P f=some A) (h2:TF P A=some rd) (h3:∀ g∈its,Kx P g):Ae P ρ B f (some (.ap f its rd)):=fun e' h'=>by cases h'; exact .inr (.inr (.inl ⟨its,rd,A,rfl,hA,h1,h2,h3⟩))
theorem Ae.tr {f:FuncId} {p:Gr} (h:Ql P ρ B f p):Ae P ρ B f (some (.tree p)):=fun e' h'=>by cases h'; exact .inr (.inr (.inr ⟨p,rfl,h⟩))
def CE (P:Program) (ρ:Env) (B:Nat) (base:Nat) (x:FA):Prop:=∀ d,Ae P ρ B (base+d.toN) (FA.sel d x)
def LY (P:Program) (ρ:Env) (B:Nat) (base:Nat) (x:FB):Prop:=∀ d,CE P ρ B (base+16*d.toN) (FB.sel d x)
theorem AX {base:Nat} {c0 c1 c2 c3 c4 c5 c6 c7 c8 c9 ca cb cc cd ce cf:DB} (h0:Ae P ρ B (base+0) c0) (h1:Ae P ρ B (base+1) c1) (h2:Ae P ρ B (base+2) c2) (h3:Ae P ρ B (base+3) c3) (h4:Ae P ρ B (base+4) c4) (h5:Ae P ρ B (base+5) c5) (h6:Ae P ρ B (base+6) c6) (h7:Ae P ρ B (base+7) c7) (h8:Ae P ρ B (base+8) c8) (h9:Ae P ρ B (base+9) c9) (h10:Ae P ρ B (base+10) ca) (h11:Ae P ρ B (base+11) cb) (h12:Ae P ρ B (base+12) cc) (h13:Ae P ρ B (base+13) cd) (h14:Ae P ρ B (base+14) ce) (h15:Ae P ρ B (base+15) cf):CE P ρ B base (.mk c0 c1 c2 c3 c4 c5 c6 c7 c8 c9 ca cb cc cd ce cf):=fun d=>by
 cases d
 ·exact h0
 ·exact h1
 ·exact h2
 ·exact h3
 ·exact h4
 ·exact h5
 ·exact h6
 ·exact h7
 ·exact h8
 ·exact h9
 ·exact h10
 ·exact h11
 ·exact h12
 ·exact h13
 ·exact h14
 ·exact h15
theorem OA {base:Nat} {c0 c1 c2 c3 c4 c5 c6 c7 c8 c9 ca cb cc cd ce cf:FA} (h0:CE P ρ B (base+16*0) c0) (h1:CE P ρ B (base+16*1) c1) (h2:CE P ρ B (base+16*2) c2) (h3:CE P ρ B (base+16*3) c3) (h4:CE P ρ B (base+16*4) c4) (h5:CE P ρ B (base+16*5) c5) (h6:CE P ρ B (base+16*6) c6) (h7:CE P ρ B (base+16*7) c7) (h8:CE P ρ B (base+16*8) c8) (h9:CE P ρ B (base+16*9) c9) (h10:CE P ρ B (base+16*10) ca) (h11:CE P ρ B (base+16*11) cb) (h12:CE P ρ B (base+16*12) cc) (h13:CE P ρ B (base+16*13) cd) (h14:CE P ρ B (base+16*14) ce) (h15:CE P ρ B (base+16*15) cf):LY P ρ B base (.mk c0 c1 c2 c3 c4 c5 c6 c7 c8 c9 ca cb cc cd ce cf):=fun d=>by
 cases d
 ·exact h0
 ·exact h1
 ·exact h2
 ·exact h3
 ·exact h4
 ·exact h5
 ·exact h6
 ·exact h7
 ·exact h8
 ·exact h9
 ·exact h10
 ·exact h11
 ·exact h12
 ·exact h13
 ·exact h14
 ·exact h15
def Oa:FA:=.mk none none none none none none none none none none none none none none none none
def HV:FB:=.mk Oa Oa Oa Oa Oa Oa Oa Oa Oa Oa Oa Oa Oa Oa Oa Oa
theorem S9 (d:D):FA.sel d Oa=none:=by cases d <;> rfl
theorem Rg (d:D):FB.sel d HV=Oa:=by cases d <;> rfl
theorem Wv {base:Nat}:CE P ρ B base Oa:=fun d=>by rw [S9]; exact Ae.no
theorem BR {base:Nat}:LY P ρ B base HV:=fun d=>by rw [Rg]; exact Wv
theorem ofN_lt {x:Nat} {d:D} (h:D.ofN x=d) (hd:d ≠ .d15):x=d.toN:=by
 rcases Nat.lt_or_ge x 15 with hx | hx
 ·rw [←h,D.toN_ofN x (by omega)]
 ·exfalso
  obtain ⟨y,rfl⟩:∃ y,x=y+15:=⟨x - 15,by omega⟩
  exact hd h.symm
theorem Uk {c0 c1 c2 c3 c4 c5 c6 c7 c8 c9 ca cb cc cd ce:FB} (h0:LY P ρ B (256*0) c0) (h1:LY P ρ B (256*1) c1) (h2:LY P ρ B (256*2) c2) (h3:LY P ρ B (256*3) c3) (h4:LY P ρ B (256*4) c4) (h5:LY P ρ B (256*5) c5) (h6:LY P ρ B (256*6) c6) (h7:LY P ρ B (256*7) c7) (h8:LY P ρ B (256*8) c8) (h9:LY P ρ B (256*9) c9) (h10:LY P ρ B (256*10) ca) (h11:LY P ρ B (256*11) cb) (h12:LY P ρ B (256*12) cc) (h13:LY P ρ B (256*13) cd) (h14:LY P ρ B (256*14) ce):∀ f e,DP (B2 f) (.mk c0 c1 c2 c3 c4 c5 c6 c7 c8 c9 ca cb cc cd ce HV)=some e->MI P ρ B f e:=fun f e h=>by
 have hc:(D.ofN (f % 16)).toN=f % 16:=D.toN_ofN _ (by omega)
 have hb:(D.ofN (f / 16 % 16)).toN=f / 16 % 16:=D.toN_ofN _ (by omega)
 have key:∀ x:FB,LY P ρ B (256*(f / 256)) x->FA.sel (D.ofN (f % 16)) (FB.sel (D.ofN (f / 16 % 16)) x)=some e->MI P ρ B f e:=fun x hx hs=>by
  have:=hx (D.ofN (f / 16 % 16)) (D.ofN (f % 16)) e hs
  rw [hc,hb] at this
  have e1:256*(f / 256)+16*(f / 16 % 16)+f % 16=f:=by omega
  rw [e1] at this; exact this
 have h:FA.sel (D.ofN (f % 16)) (FB.sel (D.ofN (f / 16 % 16)) (FC.sel (D.ofN (f / 256)) (.mk c0 c1 c2 c3 c4 c5 c6 c7 c8 c9 ca cb cc cd ce HV)))=some e:=h
 generalize hd:D.ofN (f / 256)=d at h
 cases d
 ·have:=ofN_lt hd (by intro h; cases h); rw [show D.toN .d0=0 from rfl] at this; exact key c0 (by rw [this]; exact h0) h
 ·have:=ofN_lt hd (by intro h; cases h); rw [show D.toN .d1=1 from rfl] at this; exact key c1 (by rw [this]; exact h1) h
 ·have:=ofN_lt hd (by intro h; cases h); rw [show D.toN .d2=2 from rfl] at this; exact key c2 (by rw [this]; exact h2) h
 ·have:=ofN_lt hd (by intro h; cases h); rw [show D.toN .d3=3 from rfl] at this; exact key c3 (by rw [this]; exact h3) h
 ·have:=ofN_lt hd (by intro h; cases h); rw [show D.toN .d4=4 from rfl] at this; exact key c4 (by rw [this]; exact h4) h
 ·have:=ofN_lt hd (by intro h; cases h); rw [show D.toN .d5=5 from rfl] at this; exact key c5 (by rw [this]; exact h5) h
 ·have:=ofN_lt hd (by intro h; cases h); rw [show D.toN .d6=6 from rfl] at this; exact key c6 (by rw [this]; exact h6) h
 ·have:=ofN_lt hd (by intro h; cases h); rw [show D.toN .d7=7 from rfl] at this; exact key c7 (by rw [this]; exact h7) h
 ·have:=ofN_lt hd (by intro h; cases h); rw [show D.toN .d8=8 from rfl] at this; exact key c8 (by rw [this]; exact h8) h
 ·have:=ofN_lt hd (by intro h; cases h); rw [show D.toN .d9=9 from rfl] at this; exact key c9 (by rw [this]; exact h9) h
 ·have:=ofN_lt hd (by intro h; cases h); rw [show D.toN .d10=10 from rfl] at this; exact key ca (by rw [this]; exact h10) h
 ·have:=ofN_lt hd (by intro h; cases h); rw [show D.toN .d11=11 from rfl] at this; exact key cb (by rw [this]; exact h11) h
 ·have:=ofN_lt hd (by intro h; cases h); rw [show D.toN .d12=12 from rfl] at this; exact key cc (by rw [this]; exact h12) h
 ·have:=ofN_lt hd (by intro h; cases h); rw [show D.toN .d13=13 from rfl] at this; exact key cd (by rw [this]; exact h13) h
 ·have:=ofN_lt hd (by intro h; cases h); rw [show D.toN .d14=14 from rfl] at this; exact key ce (by rw [this]; exact h14) h
 ·have h:FA.sel (D.ofN (f % 16)) (FB.sel (D.ofN (f / 16 % 16)) HV)=some e:=h
  rw [Rg,S9] at h; cases h
def I6 (P:Program) (fs:List Nat):Env:={ v:=fun _=>.bool true,ap:=fun f=>@Bool.rec (fun _=>Option ApC) none (M6 P f) (fs.contains f) }
def NU (P:Program) (g:FuncId):Bool:=match P.funcs[g]? with
 | some fn=>fn.body.isSome && !(fn.name == "runtime.NumGoroutine")
 | none=>false
theorem Qj {g:FuncId} (h:NU P g=true):Kx P g:=by
 unfold NU at h
 split at h
 ·rename_i fn hfn
  simp only [Bool.and_eq_true,Bool.not_eq_true'] at h
  obtain ⟨c,hc⟩:=Option.isSome_iff_exists.1 h.1
  exact ⟨fn,c,hfn,hc,h.2⟩
 ·cases h
def Y0 (P:Program) (f:FuncId):Option Rd:=(M6 P f).bind (TF P)
theorem Cd.mk {fs:List Nat} {f:FuncId} {its:List Nat} {rd:Rd} (hf:fs.contains f=true) (h:Y0 P f=some rd) (hb:its.all (NU P)=true):Cd P (I6 P fs) f (.ap f its rd):=by
 unfold Y0 at h
 cases hA:M6 P f with
 | none=>rw [hA] at h; cases h
 | some A =>
  rw [hA] at h
  exact ⟨its,rd,A,rfl,by show @Bool.rec (fun _=>Option ApC) none (M6 P f) (fs.contains f)=_; rw [hf]; exact hA,hA,h,fun g hg=>Qj (List.all_eq_true.1 hb g hg)⟩
theorem Ae.apE {f:FuncId} {e:Ent} (h:Cd P ρ f e):Ae P ρ B f (some e):=fun e' h'=>by cases h'; exact .inr (.inr (.inl h))
theorem GI.mk {fs:List Nat} {T:FC} (h:∀ f e,DP (B2 f) T=some e->MI P (I6 P fs) B f e) (ha:∀ f∈fs,∃ e,DP (B2 f) T=some e∧Cd P (I6 P fs) f e):GI P (I6 P fs) B T:=by
 refine ⟨h,fun f A hA=>?_⟩
 have hA:@Bool.rec (fun _=>Option ApC) none (M6 P f) (fs.contains f)=some A:=hA
 cases hc:fs.contains f with
 | false=>rw [hc] at hA; cases hA
 | true=>exact ha f (List.contains_iff_mem.1 hc)
theorem U4 {Q:Nat->Prop}:∀ f∈([]:List Nat),Q f:=fun f h=>by cases h
theorem Fo {Q:Nat->Prop} {x:Nat} {l:List Nat} (h:Q x) (k:∀ f∈l,Q f):∀ f∈x::l,Q f:=fun f hf=>by
 rcases List.mem_cons.1 hf with rfl | hf
 ·exact h
 ·exact k f hf
end
end Go.Ev

namespace Go.Ev
set_option linter.unusedVariables false
open Go.RowKit
def Lb:Gr:=fun args h n =>
 Da args fun v l=>GM l (D6 v (.fail "") fun p=>KD p h fun es bs c=>Gg h n (.m es bs c) fun h n'=>.rv (.map n) h n')
def RE (P:Program) (f:FuncId):Option FuncId :=
 match P.funcs[f]? with
 | some fn=>match fn.body with
  | some (.seq (.region _ r0 false) (.seq (.seq (.region _ r1 false) (.cond (.tmp 4) _ .skip)) (.seq (.region _ r3 false) .ret))) =>
   match r0.toList,r1.toList,r3.toList,fn.results.toList with
   | [o1],[o2,o3],[o4,o5,o6,o7,o8],[.tmp s2]=>match o1.op,o2.op,o3.op,o4.op,o5.op,o6.op,o7.op,o8.op with
    | .assign (.const c1),.move (.tmp s0),.binOp .eql t3 (.tmp s3) (.const (.map none)) _,.move (.tmp s0'),.makeInterface t5 (.tmp s5),.call ct,.typeAssert (.tmp s7) _ t7 false,.assign (.tmp s8) =>
     match ct.callee,ct.args.toList,P.underlying t5 with
     | .value (.func g),[.tmp s6],some (.map _ _) =>
      if (fn.name == "runtime.NumGoroutine")=false∧fn.ntmps=9∧s2=2∧s0=0∧s0'=0∧s3=3∧s5=5∧s6=6∧s7=7∧s8=8∧t3=t5∧t7=t5∧o1.dst=some 2∧o2.dst=some 3∧o3.dst=some 4∧o4.dst=some 5∧o5.dst=some 6∧o6.dst=some 7∧o7.dst=some 8∧o8.dst=some 2 ∧
       o1.guard=none∧o2.guard=none∧o3.guard=none∧o4.guard=none∧o5.guard=none∧o6.guard=none∧o7.guard=none∧o8.guard=none then some g else none
     | _,_,_=>none
    | _,_,_,_,_,_,_,_=>none
   | _,_,_,_=>none
  | _=>none
 | none=>none
section
variable {P:Program} {ρ:Env} {B:Nat}
theorem Pn (w:World) (t k e:TypeId) (p:Option Nat) (h:P.underlying t=some (.map k e)):(binOp .eql t (.map p) (.map none)).run P w = .ok (.bool p.isNone) w:=by
 have key:∀ d,(Op.equalIn (d+1) t (.map p) (.map none)).run P w = .ok p.isNone w:=fun d=>by cases p <;> simp [Op.equalIn,run_underlying h]
 simp only [binOp]
 simp [show Op.equal t (.map p) (.map none)=Op.equalIn (9999+1) t (.map p) (.map none) from rfl,key 9999]
theorem LN (w:World) (t xT k e:TypeId) (v:Value) (h:P.underlying t=some (.map k e)):(Instr.typeAssert (.iface t v) xT t false).run P w = .ok v w:=by
 simp [Instr.typeAssert,run_underlying h,go_sem,Result.andThen]
theorem Sn {w:World} {r:Nat} {es:Array MapEntry} {c:Nat} (t:TypeId) (hb:w.heap[r]? = some (.map es c)) :
  (Extern.MapsClone.clone #[.iface t (.map (some r))]).run P w = .ok (.iface t (.map (some w.heap.size))) (w.alloc (.map es c)):=by
 have e:Extern.MapsClone.clone #[.iface t (.map (some r))]=(getObj r >>= fun o=>match o with
   | .map entries clock=>(newObj (.map entries clock) >>= fun n=>pure (.iface t (.map (some n))))
   | _=>stuck "maps.clone: a map expected"):=rfl
 rw [e]
 have hg:(getObj r).run P w = .ok (.map es c) w:=by simp [getObj,Sem.run,hb]
 simp [hg,Result.andThen,go_sem]
theorem P5 {f g:FuncId} (hc:RE P f=some g) (b:Bare P g Extern.MapsClone.clone):EE P ρ B f Lb:=by
 intro args h n v h1 n1 hx φ w xs gm hr
 have hg:(Lb args h n).good:=by rw [hx]; trivial
 unfold Lb at hx hg
 obtain ⟨m,l,rfl,q1⟩:=Br hg
 rw [q1] at hx hg
 obtain ⟨rfl,q2⟩:=Cj hg
 rw [q2] at hx hg
 rcases Dg hg with ⟨_,q3⟩ | ⟨p,rfl,q3⟩
 ·rw [q3] at hg; exact hg.elim
 rw [q3,Jx] at hx hg
 obtain ⟨es,bs,c,hp,q4⟩:=DY hg
 rw [q4,Hx] at hx hg
 obtain ⟨n',hn,q5⟩:=Bv hg
 rw [q5] at hx
 cases hx
 obtain ⟨X,l0,hX,r0,hl0⟩:=Au.1 hr
 have hl0:=AH.1 hl0
 subst hl0
 obtain ⟨bk,s,tot,hφ,rfl⟩:=ES r0
 obtain ⟨ents,k1,k2,k3⟩:=gm.obj p _ bk s tot hp hφ
 have hxe:xs = #[.map (some bk)]:=by cases xs; simp at hX; rw [hX]
 subst hxe
 unfold RE at hc
 split at hc
 next fn hfn =>
  split at hc
  next i0 r0 i1 r1 cthen i3 r3 hbody =>
   split at hc
   next o1 o2 o3 o4 o5 o6 o7 o8 s2 e0 e1 e3 ers =>
    split at hc
    next c1 s0 t3 s3 t3' s0' t5 s5 ct s7 t7' t7 s8 p1 p2 p3 p4 p5 p6 p7 p8 =>
     split at hc
     next g' s6 kt et hcal hargs hu =>
      split at hc
      next hc' =>
       cases hc
       obtain ⟨hname,hnt,rfl,rfl,rfl,rfl,rfl,rfl,rfl,rfl,rfl,rfl,d1,d2,d3,d4,d5,d6,d7,d8,g1,g2,g3,g4,g5,g6,g7,g8⟩:=hc'
       have hres:fn.results = #[.tmp 2]:=by cases hh:fn.results with | mk l=>rw [hh] at ers; simp at ers; rw [ers]
       have hcargs:ct.args = #[.tmp 6]:=by cases hh:ct.args with | mk l=>rw [hh] at hargs; simp at hargs; rw [hargs]
       have e1':(callFunc f #[.map (some bk)]).run P w = .ok (.enter f #[.map (some bk)]) w:=by
        have hname':fn.name ≠ "runtime.NumGoroutine":=by simpa using hname
        simp [callFunc,hfn,hname',hbody]
       intro o a K Q hK
       rw [e1']
       refine (callsIn_wide (n:=0)).1 (callsIn_of_wp_marks hfn hbody trivial ?_ rfl)
       rw [hnt]
       simp only [List.size_toArray,List.length_cons,List.length_nil,Nat.reduceAdd,Nat.reduceSub,Array.replicate_succ,Array.replicate_zero,List.push_toArray,List.append_toArray,List.nil_append,List.cons_append]
       refine wpIn_seq (wpIn_region_list ?_)
       rw [e0]
       refine wpListIn_plain g1 fun K1 hK1=>BO (x:=c1) (w':=w) (by simp [execOp,p1,Act.eval]) (hK1 _ _ ?_)
       refine wpListIn_nil ?_
       refine wpIn_seq (wpIn_seq (wpIn_region_list ?_))
       rw [e1,d1]
       refine wpListIn_plain g2 fun K2 hK2=>BO (x:=.map (some bk)) (w':=w) (by simp [execOp,p2,Act.eval,Act.put]) (hK2 _ _ ?_)
       rw [d2]
       refine wpListIn_plain g3 fun K3 hK3=>BO (x:=.bool false) (w':=w) (by simp [execOp,p3,Act.eval,Act.put,eqGuard,Pn w _ _ _ _ hu]) (hK3 _ _ ?_)
       rw [d3]
       refine wpListIn_nil (wpIn_cond_false (by simp [Act.eval,Act.put]) (wpIn_skip ?_))
       refine wpIn_seq (wpIn_region_list ?_)
       rw [e3]
       refine wpListIn_plain g4 fun K4 hK4=>BO (x:=.map (some bk)) (w':=w) (by simp [execOp,p4,Act.eval,Act.put]) (hK4 _ _ ?_)
       rw [d4]
       refine wpListIn_plain g5 fun K5 hK5=>BO (x:=.iface t7 (.map (some bk))) (w':=w) (by simp [execOp,p5,Act.eval,Act.put,Instr.makeInterface,run_underlying hu]) (hK5 _ _ ?_)
       rw [d5]
       refine wpListIn_plain g6 fun K6 hK6=>BO (x:=.iface t7 (.map (some w.heap.size))) (w':=w.alloc (.map ents c)) (by
        simp only [execOp,p6,resolve,hcal,hcargs,Deferred.ofValue,Act.eval,Act.put]
        have:=b.run (Sn (P:=P) t7 k1)
        simp [invoke,Act.eval,this]) (hK6 _ _ ?_)
       rw [d6]
       refine wpListIn_plain g7 fun K7 hK7=>BO (x:=.map (some w.heap.size)) (w':=w.alloc (.map ents c)) (by simp [execOp,p7,Act.eval,Act.put,LN _ _ _ _ _ _ hu]) (hK7 _ _ ?_)
       rw [d7]
       refine wpListIn_plain g8 fun K8 hK8=>BO (x:=.map (some w.heap.size)) (w':=w.alloc (.map ents c)) (by simp [execOp,p8,Act.eval,Act.put]) (hK8 _ _ ?_)
       rw [d8]
       refine wpListIn_nil (wpIn_ret ?_)
       show LeavesInM Fence.wide 0 P fn _ _ [] .returning (w.alloc (.map ents c))
       unfold LeavesInM LeavesIn
       refine ⟨.map (some w.heap.size),by simp [results,hres,Act.put],?_⟩
       refine hK _ _ ⟨Er φ n (w.heap.size,0,0),Fr.alloc gm.at_n (by omega) (Nat.le_refl _) (by omega) _ _ 0,gm.alloc gm.at_n (by omega) (by omega) (.m es bs c) rfl _ 0 fun φ' hle w' hw'=>⟨ents,hw',Ms hle k2,k3⟩,?_⟩
       simp only [AL]
       exact ⟨w.heap.size,0,0,BU _ _ _,rfl⟩
      next=>cases hc
     next=>cases hc
    next=>cases hc
   next=>cases hc
  next=>cases hc
 next=>cases hc
end
end Go.Ev

namespace Go.Ev
set_option linter.unusedVariables false
theorem HA.setS_sel (d:D) (p:HA):HA.setS d p (HA.sel d p)=p:=by cases d <;> cases p <;> rfl
theorem HB.setS_sel (d:D) (p:HB):HB.setS d p (HB.sel d p)=p:=by cases d <;> cases p <;> rfl
theorem HC.setS_sel (d:D) (p:HC):HC.setS d p (HC.sel d p)=p:=by cases d <;> cases p <;> rfl
theorem Heap.setS_sel (d:D) (p:Heap):Heap.setS d p (Heap.sel d p)=p:=by cases d <;> cases p <;> rfl
theorem R1 (p:K4) (h:Heap):AJ p h (Ar p h)=h:=by
 cases p
 simp only [Ar,AJ,EU,Heap.setK_eq,HC.setK_eq,HB.setK_eq,HA.setK_eq,Heap.selK_eq,HC.selK_eq,HB.selK_eq,id,HA.setS_sel,HB.setS_sel,HC.setS_sel,Heap.setS_sel]
def SF (r:R) (κ:S->Heap->K4->R):R :=
 @R.rec (fun _=>R) (fun e t h n=>@Ex.rec (fun _=>R) (κ t h n) (fun id=>.ok (.exit id) t h n) (.ok .ret t h n) e) (C4 "") (fun w=>.fail w) (fun _ _ a b=>.both a b) r
abbrev OE:=S->Heap->(Nat->S->R)->R->R
def GQ (body:S->Heap->K4->R) (ih:Nat->S->Heap->K4->R) (k:Nat) (t:S) (h:Heap) (n:K4):R :=
 @Nat.rec (fun _=>R) (.fail "") (fun k _=>SF (body t h n) (ih k)) k
def Nd (body:S->Heap->K4->R) (J:OE) (r:Nat):Nat->S->Heap->K4->R :=
 @Nat.rec (fun _=>Nat->S->Heap->K4->R) (fun k=>E2 body k)
  (fun _ ih k t h n=>J t h (fun j t'=>br (Nat.ble j k) (Aj (Nat.sub k j) fun k=>GQ body ih k t' h n) (E2 body k t h n)) (GQ body ih k t h n)) r
def LG (body:S->Heap->K4->R) (J:OE):S->Heap->K4->R:=Nd body J 1000000 1000000000
def LR (body:S->Heap->K4->R) (J:OE):Prop :=
 ∀ t h κ κ0,J t h κ κ0=κ0 ∨ ∃ j t',J t h κ κ0=κ j t' ∧ ∀ k n,E2 body (j+k) t h n=E2 body k t' h n
theorem Ch (body:S->Heap->K4->R):∀ (k:Nat) (t:S) (h:Heap) (n:K4),E2 body k t h n=GQ body (E2 body) k t h n
 | 0,_,_,_=>rfl
 | _+1,_,_,_=>rfl
theorem VW {body:S->Heap->K4->R} {J:OE} (H:LR body J):∀ (r k:Nat),Nd body J r k=E2 body k:=by
 intro r
 induction r with
 | zero=>exact fun _=>rfl
 | succ r ih =>
  intro k
  funext t h n
  have e0:Nd body J (r+1) k t h n=J t h (fun j t'=>br (Nat.ble j k) (Aj (Nat.sub k j) fun k=>GQ body (Nd body J r) k t' h n) (E2 body k t h n)) (GQ body (Nd body J r) k t h n):=rfl
  have ih:Nd body J r=E2 body:=funext ih
  rw [e0,ih]
  rcases H t h (fun j t'=>br (Nat.ble j k) (Aj (Nat.sub k j) fun k=>GQ body (E2 body) k t' h n) (E2 body k t h n)) (GQ body (E2 body) k t h n) with e | ⟨j,t',e,hj⟩
  ·rw [e,←Ch]
  ·rw [e]
   cases hb:Nat.ble j k with
   | false=>rfl
   | true =>
    have hb:=Nat.le_of_ble_eq_true hb
    show Aj (Nat.sub k j) (fun k=>GQ body (E2 body) k t' h n)=_
    rw [Ai,←Ch,show Nat.sub k j=k - j from rfl,←hj (k - j) n,show j+(k - j)=k by omega]
theorem Jz {body:S->Heap->K4->R} {J:OE} (H:LR body J):AE body=LG body J:=(VW H 1000000 1000000000).symm
def DF:S->Heap->K4->R:=fun t h n=>g7 t fun z20=>g6 t fun z21=>As z20 z21 fun z22=>Aq z22 (Ac 2 (g5 t fun z23=>A8 z23 fun z24=>A7 2 z24 fun z25=>Aa z25 h fun z26=>g2 t fun z27=>Ag z27 z20 fun z28=>E3 z28 (.int .i64 64) fun z29=>H8 (.sc .i) z26 z29 (.bool true) h fun h=>.ok .nrm t h n) fun t h n=>g7 t fun z2a=>Ag z2a (.int .i64 1) fun z2b=>w7 t z2b fun t=>.ok .nrm t h n)<|.ok (.exit 1) t h n
def M3 (v:V) (κ0:R) (κ:Nat->R):R :=
 @V.rec (fun _=>R) (fun _=>Unit) (fun k r=>br (Be k .i64) (κ r) κ0) (fun _=>κ0) (fun _ _=>κ0) (fun _ _ _ _ _ _=>κ0) (fun _ _=>κ0) (fun _ _=>κ0) (fun _=>κ0) (fun _=>κ0) (fun _ _ _=>κ0) (fun _ _=>κ0) (fun _=>κ0) () (fun _ _ _ _=>()) v
def Vg (v:V) (κ0:R) (κ:K4->Nat->R):R :=
 @V.rec (fun _=>R) (fun _=>Unit) (fun _ _=>κ0) (fun _=>κ0) (fun p o=>κ p o) (fun _ _ _ _ _ _=>κ0) (fun _ _=>κ0) (fun _ _=>κ0) (fun _=>κ0) (fun _=>κ0) (fun _ _ _=>κ0) (fun _ _=>κ0) (fun _=>κ0) () (fun _ _ _ _=>()) v
def Vy (v:V) (κ0:R) (κ:K4->R):R :=
 @V.rec (fun _=>R) (fun _=>Unit) (fun _ _=>κ0) (fun _=>κ0) (fun _ _=>κ0) (fun _ _ _ _ _ _=>κ0) (fun _ _=>κ0) (fun _ _=>κ0) (fun _=>κ0) (fun p=>κ p) (fun _ _ _=>κ0) (fun _ _=>κ0) (fun _=>κ0) () (fun _ _ _ _=>()) v
def KS (v:V):Bool :=
 @V.rec (fun _=>Bool) (fun _=>Unit) (fun _ _=>false) (fun b=>b) (fun _ _=>false) (fun _ _ _ _ _ _=>false) (fun _ _=>false) (fun _ _=>false) (fun _=>false) (fun _=>false) (fun _ _ _=>false) (fun _ _=>false) (fun _=>false) () (fun _ _ _ _=>()) v
def Xd (m:Nat):List V->R->(V->R)->R :=
 @Nat.rec (fun _=>List V->R->(V->R)->R) (fun xs κ0 k=>@List.rec V (fun _=>R) κ0 (fun x _ _=>k x) xs)
  (fun _ ih xs κ0 k=>@List.rec V (fun _=>R) κ0 (fun _ ys _=>ih ys κ0 k) xs) m
def RH (o:Cu) (i:Nat) (κ0:R) (κ:V->R):R :=
 @Option.rec Ob (fun _=>R) κ0 (fun o=>@Ob.rec (fun _=>R) (fun cs _ _=>@Cs.rec (fun _=>R) (fun xs=>Xd i xs κ0 κ) (fun _ _=>κ0) cs) (fun _ _ _=>κ0) (fun _ _ _ _=>κ0) κ0 (fun _ _=>κ0) o) o
def RX (o:Cu) (κ0:R) (κ:List (V×V)->List Nat->R):R :=
 @Option.rec Ob (fun _=>R) κ0 (fun o=>@Ob.rec (fun _=>R) (fun _ _ _=>κ0) (fun es bs _=>κ es bs) (fun _ _ _ _=>κ0) κ0 (fun _ _=>κ0) o) o
def OJ (k:Nat) (es:List (V×V)):Bool :=
 @List.rec (V×V) (fun _=>Bool) false (fun e _ ih=>@Prod.rec V V (fun _=>Bool) (fun a b=>@V.rec (fun _=>Bool) (fun _=>Unit) (fun kd r=>br (Be kd .i64) (br (Nat.beq k r) (KS b) ih) false) (fun _=>false) (fun _ _=>false) (fun _ _ _ _ _ _=>false) (fun _ _=>false) (fun _ _=>false) (fun _=>false) (fun _=>false) (fun _ _ _=>false) (fun _ _=>false) (fun _=>false) () (fun _ _ _ _=>()) a) e) es
def Qh:OE:=fun t h κ κ0=>g7 t fun i=>g6 t fun m=>g2 t fun a=>g5 t fun x =>
 M3 i κ0 fun i0=>M3 m κ0 fun m0=>M3 a κ0 fun a0=>Vg x κ0 fun p off=>Bu p h fun o=>RH o (Nat.add off 2) κ0 fun u=>Vy u κ0 fun q=>Bu q h fun o=>RX o κ0 fun es bs =>
  br (Nat.ble m0 4611686018427387904) (br (Nat.ble a0 4611686018427387904) (br (Nat.ble i0 m0) (br (Fe es bs) (Aj (Nat.div (Nat.add a0 i0) 64) fun k=>br (OJ k es)
   (Aj (Nat.sub m0 i0) fun j1=>Aj (Nat.sub (Nat.mul 64 (Nat.succ k)) (Nat.add a0 i0)) fun j2=>br (Nat.ble j1 j2) (Aj (Nat.add i0 j1) fun i=>w7 t (.int .i64 i) fun t=>κ j1 t) (Aj (Nat.add i0 j2) fun i=>w7 t (.int .i64 i) fun t=>κ j2 t))
   κ0) κ0) κ0) κ0) κ0
theorem TG (v:V) (κ0:R) (κ:Nat->R):M3 v κ0 κ=κ0 ∨ ∃ r,v = .int .i64 r∧M3 v κ0 κ=κ r:=by
 cases v with
 | int k r =>
  show br (Be k .i64) (κ r) κ0=κ0 ∨ ∃ r',V.int k r = .int .i64 r'∧br (Be k .i64) (κ r) κ0=κ r'
  cases hb:Be k .i64 with
  | false=>exact .inl rfl
  | true=>exact .inr ⟨r,by rw [B3.1 hb],rfl⟩
 | _=>exact .inl rfl
theorem UB (v:V) (κ0:R) (κ:K4->Nat->R):Vg v κ0 κ=κ0 ∨ ∃ p o,v = .ptr p o∧Vg v κ0 κ=κ p o:=by
 cases v with
 | ptr p o=>exact .inr ⟨p,o,rfl,rfl⟩
 | _=>exact .inl rfl
theorem TL (v:V) (κ0:R) (κ:K4->R):Vy v κ0 κ=κ0 ∨ ∃ p,v = .map p∧Vy v κ0 κ=κ p:=by
 cases v with
 | map p=>exact .inr ⟨p,rfl,rfl⟩
 | _=>exact .inl rfl
theorem PH:∀ (m:Nat) (xs:List V) (κ0:R) (κ:V->R),Xd m xs κ0 κ=κ0 ∨ ∃ v,xs[m]? = some v∧Xd m xs κ0 κ=κ v
 | 0,[],_,_=>.inl rfl
 | 0,x::_,_,_=>.inr ⟨x,rfl,rfl⟩
 | m+1,[],_,_=>.inl rfl
 | m+1,x::xs,κ0,κ=>PH m xs κ0 κ
theorem FV:∀ {m:Nat} {xs:List V} {v:V} {κ:V->R},xs[m]? = some v->CL m xs κ=κ v
 | 0,[],_,_,h=>by cases h
 | 0,x::_,_,_,h=>by cases h; rfl
 | m+1,[],_,_,h=>by cases h
 | m+1,x::xs,v,κ,h=>FV (m:=m) (xs:=xs) h
theorem ST (o:Cu) (i:Nat) (κ0:R) (κ:V->R):RH o i κ0 κ=κ0 ∨ ∃ xs sup prev v,o=some (.c (.l xs) sup prev)∧xs[i]? = some v∧RH o i κ0 κ=κ v:=by
 cases o with
 | none=>exact .inl rfl
 | some o=>cases o with
  | c cs sup prev=>cases cs with
   | l xs =>
    rcases PH i xs κ0 κ with e | ⟨v,h,e⟩
    ·exact .inl e
    ·exact .inr ⟨xs,sup,prev,v,rfl,h,e⟩
   | b _ _=>exact .inl rfl
  | _=>exact .inl rfl
theorem Tc (o:Cu) (κ0:R) (κ:List (V×V)->List Nat->R):RX o κ0 κ=κ0 ∨ ∃ es bs c,o=some (.m es bs c)∧RX o κ0 κ=κ es bs:=by
 cases o with
 | none=>exact .inl rfl
 | some o=>cases o with
  | m es bs c=>exact .inr ⟨es,bs,c,rfl,rfl⟩
  | _=>exact .inl rfl
theorem Qs {v:V} (h:KS v=true):v = .bool true:=by
 cases v with
 | bool b=>rw [show b=true from h]
 | _=>cases h
theorem RJ {k:Nat}:∀ {es:List (V×V)} {κ:List (V×V)->R},OJ k es=true->Io (.sc .i) (.int .i64 k) (.bool true) es κ=κ es
 | [],κ,h=>by cases h
 | (a,b)::es,κ,h=>by
  cases a with
  | int kd r =>
   have h:br (Be kd .i64) (br (Nat.beq k r) (KS b) (OJ k es)) false=true:=h
   cases hk:Be kd .i64 with
   | false=>rw [hk] at h; cases h
   | true =>
    have hkd:=B3.1 hk
    subst hkd
    have hx:br (Nat.beq k r) (KS b) (OJ k es)=true:=h
    have e0:Io (.sc .i) (.int .i64 k) (.bool true) ((.int .i64 r,b)::es) κ=Cm (Nat.beq k r) fun q=>br q (κ ((.int .i64 k,.bool true)::es)) (Io (.sc .i) (.int .i64 k) (.bool true) es fun l=>κ ((.int .i64 r,b)::l)):=rfl
    rw [e0,BK]
    cases hb:Nat.beq k r with
    | true =>
     rw [hb] at hx
     rw [Qs (show KS b=true from hx),Nat.eq_of_beq_eq_true hb]; rfl
    | false =>
     rw [hb] at hx
     exact RJ (κ:=fun l=>κ ((.int .i64 r,b)::l)) (show OJ k es=true from hx)
  | _=>cases h
theorem R8 {a b:Nat} {κ:V->R} (h:a<b) (hb:b≤4611686018427387904):As (.int .i64 a) (.int .i64 b) κ=κ (.bool true):=by
 have e0:As (.int .i64 a) (.int .i64 b) κ=Cm (br (Nat.ble 9223372036854775808 a) (br (Nat.ble 9223372036854775808 b) (Nat.ble (Nat.succ a) b) true) (br (Nat.ble 9223372036854775808 b) false (Nat.ble (Nat.succ a) b))) fun r=>κ (.bool r):=rfl
 have h1:Nat.ble 9223372036854775808 a=false:=Bool.eq_false_iff.2 fun h=>by have:=Nat.le_of_ble_eq_true h; omega
 have h2:Nat.ble 9223372036854775808 b=false:=Bool.eq_false_iff.2 fun h=>by have:=Nat.le_of_ble_eq_true h; omega
 have h3:Nat.ble (Nat.succ a) b=true:=Nat.ble_eq_true_of_le h
 rw [e0,BK,h1,h2,h3]; rfl
theorem LJ {a b:Nat} {κ:V->R} (h:a+b<18446744073709551616):Ag (.int .i64 a) (.int .i64 b) κ=κ (.int .i64 (a+b)):=by
 have e0:Ag (.int .i64 a) (.int .i64 b) κ=Aj (Nat.mod (Nat.add a b) 18446744073709551616) fun r=>κ (.int .i64 r):=rfl
 rw [e0,Ai,show Nat.mod (Nat.add a b) 18446744073709551616=a+b from Nat.mod_eq_of_lt h]
theorem WU {a:Nat} {κ:V->R} (h:a<9223372036854775808):E3 (.int .i64 a) (.int .i64 64) κ=κ (.int .i64 (a / 64)):=by
 have e0:E3 (.int .i64 a) (.int .i64 64) κ=br (Nat.ble (Nat.succ a) 9223372036854775808) (Aj (Nat.div a 64) fun r=>κ (.int .i64 r)) (.fail ""):=rfl
 rw [e0,show Nat.ble (Nat.succ a) 9223372036854775808=true from Nat.ble_eq_true_of_le h]
 show Aj (Nat.div a 64) (fun r=>κ (V.int .i64 r))=κ (V.int .i64 (a / 64))
 rw [Ai]; rfl
theorem Gk {id:Nat} {t:S} {h:Heap} {n:K4} {κ:S->Heap->K4->R}:Ac id (.ok .nrm t h n) κ=κ t h n:=rfl
theorem KQ {p:K4} {off:Nat} {h:Heap} {xs:List V} {sup:Bool} {prev:Option K4} {v:V} {κ:V->R} (hp:Ar p h=some (.c (.l xs) sup prev)) (hv:xs[off]? = some v):Aa (.ptr p off) h κ=κ v:=by
 show HH p h (fun cs _ _=>Gd cs off κ)=_
 rw [F9]
 have e:(I4 p h fun cs _ _=>Gd cs off κ)=@Option.rec Ob (fun _=>R) (.fail "") (fun o=>@Ob.rec (fun _=>R) (fun cs _ _=>Gd cs off κ) (C4 "") (FQ "") (.fail "") (AT "") o) (Ar p h):=E1 _ _ _
 rw [e,hp]
 exact FV hv
theorem XS {q:K4} {h:Heap} {es:List (V×V)} {bs:List Nat} {c k:Nat} {κ:Heap->R} (hq:Ar q h=some (.m es bs c)) (hs:Fe es bs=true) (hh:OJ k es=true):H8 (.sc .i) (.map q) (.int .i64 k) (.bool true) h κ=κ h:=by
 show Uw q h (fun es bs c k'=>Io (.sc .i) (.int .i64 k) (.bool true) es fun es=>WM es bs c fun bs c=>k' es bs c) κ=κ h
 rw [Rl]
 have e:∀ F,PU q h F=@Option.rec Ob (fun _=>R) (.fail "") (fun o=>@Ob.rec (fun _=>R) (C4 "") F (FQ "") (.fail "") (AT "") o) (Ar q h):=fun F=>E1 _ _ _
 rw [e,hq]
 show Io (.sc .i) (.int .i64 k) (.bool true) es (fun es'=>WM es' bs c fun bs c=>EU q h (some (.m es' bs c)) κ)=κ h
 rw [RJ hh]
 unfold WM
 rw [hs]
 show EU q h (some (.m es bs c)) κ=κ h
 rw [Bm,←hq,R1]
theorem PS {d0 d1 d3 d4:V} {c2 c3 c4 c5 c6 c7:SQ} {h:Heap} {n p q:K4} {off i0 m0 a0 c:Nat} {xs:List V} {sup:Bool} {prev:Option K4} {es:List (V×V)} {bs:List Nat}
  (hp:Ar p h=some (.c (.l xs) sup prev)) (hv:xs[off+2]? = some (.map q)) (hq:Ar q h=some (.m es bs c)) (hs:Fe es bs=true) (hm:m0≤4611686018427387904) (ha:a0≤4611686018427387904) (hi:i0<m0) (hh:OJ ((a0+i0) / 64) es=true) :
  DF (.mk (.mk d0 d1 (.int .i64 a0) d3) (.mk d4 (.ptr p off) (.int .i64 m0) (.int .i64 i0)) c2 c3 c4 c5 c6 c7) h n = .ok .nrm (.mk (.mk d0 d1 (.int .i64 a0) d3) (.mk d4 (.ptr p off) (.int .i64 m0) (.int .i64 (i0+1))) c2 c3 c4 c5 c6 c7) h n:=by
 have e1:∀ κ:V->R,A8 (.ptr p off) κ=κ (.ptr p off):=fun κ=>rfl
 have e2:∀ κ:V->R,A7 2 (.ptr p off) κ=κ (.ptr p (off+2)):=fun κ=>by
  show Aj (Nat.add off 2) (fun o=>κ (.ptr p o))=_
  rw [Ai]
 unfold DF
 show As (.int .i64 i0) (.int .i64 m0) _=_
 rw [R8 hi hm]
 show Ac 2 (A8 (.ptr p off) _) _=_
 rw [e1,e2,KQ hp hv]
 show Ac 2 (Ag (.int .i64 a0) (.int .i64 i0) _) _=_
 rw [LJ (by omega),WU (by omega),XS hq hs hh,Gk]
 show Ag (.int .i64 i0) (.int .i64 1) _=_
 rw [LJ (by omega)]
theorem IR {d0 d1 d3 d4:V} {c2 c3 c4 c5 c6 c7:SQ} {h:Heap} {n p q:K4} {off m0 a0 c k:Nat} {xs:List V} {sup:Bool} {prev:Option K4} {es:List (V×V)} {bs:List Nat}
  (hp:Ar p h=some (.c (.l xs) sup prev)) (hv:xs[off+2]? = some (.map q)) (hq:Ar q h=some (.m es bs c)) (hs:Fe es bs=true) (hm:m0≤4611686018427387904) (ha:a0≤4611686018427387904) (hh:OJ k es=true) :
  ∀ (j i0:Nat),i0+j≤m0->(∀ r,r<j->(a0+(i0+r)) / 64=k)->∀ K,E2 DF (j+K) (.mk (.mk d0 d1 (.int .i64 a0) d3) (.mk d4 (.ptr p off) (.int .i64 m0) (.int .i64 i0)) c2 c3 c4 c5 c6 c7) h n
   = E2 DF K (.mk (.mk d0 d1 (.int .i64 a0) d3) (.mk d4 (.ptr p off) (.int .i64 m0) (.int .i64 (i0+j))) c2 c3 c4 c5 c6 c7) h n
 | 0,i0,_,_,K=>by rw [Nat.zero_add]; rfl
 | j+1,i0,hj,hr,K=>by
  have h0:=hr 0 (by omega)
  rw [show j+1+K=(j+K)+1 by omega,Ch]
  show SF (DF _ h n) (E2 DF (j+K))=_
  rw [PS hp hv hq hs hm ha (by omega) (by rw [show a0+i0=a0+(i0+0) by omega,h0]; exact hh)]
  show E2 DF (j+K) _ h n=_
  rw [IR hp hv hq hs hm ha hh j (i0+1) (by omega) (fun r hr'=>by have:=hr (r+1) (by omega); rw [←this]; congr 2; omega) K,show i0+1+j=i0+(j+1) by omega]
section
variable {G:R->Prop}
theorem Fn {v:V} {κ0:R} {κ:Nat->R} (g0:G κ0) (g1:∀ r,v = .int .i64 r->G (κ r)):G (M3 v κ0 κ):=by
 rcases TG v κ0 κ with e | ⟨r,h,e⟩ <;> rw [e]
 ·exact g0
 ·exact g1 r h
theorem TD {v:V} {κ0:R} {κ:K4->Nat->R} (g0:G κ0) (g1:∀ p o,v = .ptr p o->G (κ p o)):G (Vg v κ0 κ):=by
 rcases UB v κ0 κ with e | ⟨p,o,h,e⟩ <;> rw [e]
 ·exact g0
 ·exact g1 p o h
theorem TW {v:V} {κ0:R} {κ:K4->R} (g0:G κ0) (g1:∀ p,v = .map p->G (κ p)):G (Vy v κ0 κ):=by
 rcases TL v κ0 κ with e | ⟨p,h,e⟩ <;> rw [e]
 ·exact g0
 ·exact g1 p h
theorem T9 {o:Cu} {i:Nat} {κ0:R} {κ:V->R} (g0:G κ0) (g1:∀ xs sup prev v,o=some (.c (.l xs) sup prev)->xs[i]? = some v->G (κ v)):G (RH o i κ0 κ):=by
 rcases ST o i κ0 κ with e | ⟨xs,sup,prev,v,h,h',e⟩ <;> rw [e]
 ·exact g0
 ·exact g1 xs sup prev v h h'
theorem SA {o:Cu} {κ0:R} {κ:List (V×V)->List Nat->R} (g0:G κ0) (g1:∀ es bs c,o=some (.m es bs c)->G (κ es bs)):G (RX o κ0 κ):=by
 rcases Tc o κ0 κ with e | ⟨es,bs,c,h,e⟩ <;> rw [e]
 ·exact g0
 ·exact g1 es bs c h
theorem Dn {b:Bool} {x y:R} (g0:G y) (g1:b=true->G x):G (br b x y):=by
 cases b with
 | false=>exact g0
 | true=>exact g1 rfl
theorem HM {p:K4} {h:Heap} {κ:Cu->R} (g:G (κ (Ar p h))):G (Bu p h κ):=by rw [Bz]; exact g
theorem Ip {m:Nat} {κ:Nat->R} (g:G (κ m)):G (Aj m κ):=by rw [Ai]; exact g
end
theorem Qq:LR DF Qh:=by
 intro t h κ κ0
 cases t with
 | mk c0 c1 c2 c3 c4 c5 c6 c7 =>
  cases c0 with
  | mk d0 d1 a d3 =>
   cases c1 with
   | mk d4 x m i =>
    obtain ⟨T,hT⟩:∃ T:S,T = .mk (.mk d0 d1 a d3) (.mk d4 x m i) c2 c3 c4 c5 c6 c7:=⟨_,rfl⟩
    obtain ⟨G,hG⟩:∃ G:R->Prop,∀ r,G r ↔ (r=κ0 ∨ ∃ j t',r=κ j t' ∧ ∀ k n,E2 DF (j+k) T h n=E2 DF k t' h n):=⟨_,fun r=>Iff.rfl⟩
    have g0:G κ0:=(hG _).2 (.inl rfl)
    rw [←hT]
    refine (hG _).1 ?_
    rw [hT]
    refine Fn (G:=G) g0 fun i0 hi=>Fn (G:=G) g0 fun m0 hm=>Fn (G:=G) g0 fun a0 ha=>TD (G:=G) g0 fun p off hx=>HM (G:=G) (T9 (G:=G) g0 fun xs sup prev u hp hv=>TW (G:=G) g0 fun q hu=>?_)
    subst hi hm ha hx hu
    refine HM (G:=G) (SA (G:=G) g0 fun es bs c hq=>Dn (G:=G) g0 fun b1=>Dn (G:=G) g0 fun b2=>Dn (G:=G) g0 fun b3=>Dn (G:=G) g0 fun b4=>Ip (G:=G) (Dn (G:=G) g0 fun b5=>Ip (G:=G) (Ip (G:=G) ?_)))
    have b1:=Nat.le_of_ble_eq_true b1
    have b2:=Nat.le_of_ble_eq_true b2
    have b3:=Nat.le_of_ble_eq_true b3
    have e1:Nat.sub m0 i0=m0 - i0:=rfl
    have e2:Nat.sub (Nat.mul 64 (Nat.succ (Nat.div (Nat.add a0 i0) 64))) (Nat.add a0 i0)=64*((a0+i0) / 64+1) - (a0+i0):=rfl
    have e3:Nat.div (Nat.add a0 i0) 64=(a0+i0) / 64:=rfl
    rw [e1,e2]
    rw [e3] at b5
    have key:∀ j,j≤m0 - i0->j≤64*((a0+i0) / 64+1) - (a0+i0)->∀ K n,E2 DF (j+K) (.mk (.mk d0 d1 (.int .i64 a0) d3) (.mk d4 (.ptr p off) (.int .i64 m0) (.int .i64 i0)) c2 c3 c4 c5 c6 c7) h n
      = E2 DF K (.mk (.mk d0 d1 (.int .i64 a0) d3) (.mk d4 (.ptr p off) (.int .i64 m0) (.int .i64 (i0+j))) c2 c3 c4 c5 c6 c7) h n:=fun j hj1 hj2 K n =>
     IR hp hv hq b4 b1 b2 b5 j i0 (by omega) (fun r hr=>by omega) K
    cases hb:Nat.ble (m0 - i0) (64*((a0+i0) / 64+1) - (a0+i0)) with
    | true =>
     rw [show ∀ x y:R,br true x y=x from fun _ _=>rfl,Ai]
     refine (hG _).2 (.inr ⟨m0 - i0,_,rfl,fun K n=>?_⟩)
     rw [hT]
     exact key _ (Nat.le_refl _) (Nat.le_of_ble_eq_true hb) K n
    | false =>
     rw [show ∀ x y:R,br false x y=y from fun _ _=>rfl,Ai]
     refine (hG _).2 (.inr ⟨64*((a0+i0) / 64+1) - (a0+i0),_,rfl,fun K n=>?_⟩)
     rw [hT]
     refine key _ ?_ (Nat.le_refl _) K n
     rcases Nat.lt_or_ge (64*((a0+i0) / 64+1) - (a0+i0)) (m0 - i0) with h' | h'
     ·omega
     ·rw [Nat.ble_eq_true_of_le h'] at hb; cases hb
theorem V7:AE DF=LG DF Qh:=Jz Qq
def Jy:S->Heap->K4->R:=fun t h n=>g7 t fun ze=>As ze (.int .i64 8) fun zf=>Aq zf (Ac 3 (g3 t fun zg=>D4 zg (.int .u64 1) fun zh=>E5 zg (.int .u32 1) fun zi=>MG zi fun zj=>E5 (.int .u32 2197175160) zj fun zk=>C5 zh zk fun zl=>w3 t zl fun t=>.ok .nrm t h n) fun t h n=>g7 t fun zm=>Ag zm (.int .i64 1) fun zn=>w7 t zn fun t=>.ok .nrm t h n)<|.ok (.exit 2) t h n
def Y5 (v:V) (κ0:R) (κ:Nat->R):R :=
 @V.rec (fun _=>R) (fun _=>Unit) (fun k r=>br (Be k .u32) (κ r) κ0) (fun _=>κ0) (fun _ _=>κ0) (fun _ _ _ _ _ _=>κ0) (fun _ _=>κ0) (fun _ _=>κ0) (fun _=>κ0) (fun _=>κ0) (fun _ _ _=>κ0) (fun _ _=>κ0) (fun _=>κ0) () (fun _ _ _ _=>()) v
def Je (x:Nat):Nat:=Nat.xor (Nat.shiftRight x 1) (Nat.land 2197175160 (Nat.mod (Nat.add 0 (Nat.sub 4294967296 (Nat.land x 1))) 4294967296))
def G5 (j:Nat):Nat->Nat:=@Nat.rec (fun _=>Nat->Nat) (fun x=>x) (fun _ ih x=>ih (Je x)) j
theorem Us {G:R->Prop} {v:V} {κ0:R} {κ:Nat->R} (g0:G κ0) (g1:∀ r,v = .int .u32 r->G (κ r)):G (Y5 v κ0 κ):=by
 cases v with
 | int k r =>
  show G (br (Be k .u32) (κ r) κ0)
  cases hb:Be k .u32 with
  | false=>exact g0
  | true=>exact g1 r (by rw [B3.1 hb])
 | _=>exact g0
theorem RP {x:Nat} (h:x<4294967296):Je x<4294967296:=by
 have h1:x >>> 1<2 ^ 32:=by rw [Nat.shiftRight_eq_div_pow]; omega
 have h2:2197175160 &&& ((0+(4294967296 - (x &&& 1))) % 4294967296)<2 ^ 32:=Nat.lt_of_le_of_lt Nat.and_le_left (by decide)
 exact Nat.xor_lt_two_pow h1 h2
theorem Su {d0 d1 d2 d4 d5 d6:V} {c2 c3 c4 c5 c6 c7:SQ} {h:Heap} {n:K4} {i x:Nat} (hi:i<8) (hx:x<4294967296) :
  Jy (.mk (.mk d0 d1 d2 (.int .u32 x)) (.mk d4 d5 d6 (.int .i64 i)) c2 c3 c4 c5 c6 c7) h n = .ok .nrm (.mk (.mk d0 d1 d2 (.int .u32 (Je x))) (.mk d4 d5 d6 (.int .i64 (i+1))) c2 c3 c4 c5 c6 c7) h n:=by
 have e1:∀ κ:V->R,D4 (.int .u32 x) (.int .u64 1) κ=κ (.int .u32 (Nat.shiftRight x 1)):=fun κ=>by
  have e0:D4 (.int .u32 x) (.int .u64 1) κ=br (Nat.ble (Nat.succ x) 4294967296) (Aj (Nat.shiftRight x 1) fun r=>κ (.int .u32 r)) (.fail ""):=rfl
  rw [e0,show Nat.ble (Nat.succ x) 4294967296=true from Nat.ble_eq_true_of_le hx]
  show Aj (Nat.shiftRight x 1) (fun r=>κ (V.int .u32 r))=_
  rw [Ai]
 have e2:∀ (a b:Nat) (κ:V->R),E5 (.int .u32 a) (.int .u32 b) κ=κ (.int .u32 (Nat.land a b)):=fun a b κ=>by
  have e0:E5 (.int .u32 a) (.int .u32 b) κ=Aj (Nat.land a b) fun r=>κ (.int .u32 r):=rfl
  rw [e0,Ai]
 have e3:∀ (a b:Nat) (κ:V->R),C5 (.int .u32 a) (.int .u32 b) κ=κ (.int .u32 (Nat.xor a b)):=fun a b κ=>by
  have e0:C5 (.int .u32 a) (.int .u32 b) κ=Aj (Nat.xor a b) fun r=>κ (.int .u32 r):=rfl
  rw [e0,Ai]
 have e4:∀ (a:Nat) (κ:V->R),MG (.int .u32 a) κ=κ (.int .u32 (Nat.mod (Nat.add 0 (Nat.sub 4294967296 a)) 4294967296)):=fun a κ=>by
  have e0:MG (.int .u32 a) κ=Aj (Nat.mod (Nat.add 0 (Nat.sub 4294967296 a)) 4294967296) fun r=>κ (.int .u32 r):=rfl
  rw [e0,Ai]
 unfold Jy
 show As (.int .i64 i) (.int .i64 8) _=_
 rw [R8 hi (by omega)]
 show Ac 3 (D4 (.int .u32 x) (.int .u64 1) _) _=_
 rw [e1,e2,e4,e2,e3,Gk]
 show Ag (.int .i64 i) (.int .i64 1) _=_
 rw [LJ (by omega)]; rfl
theorem LO {d0 d1 d2 d4 d5 d6:V} {c2 c3 c4 c5 c6 c7:SQ} {h:Heap} {n:K4} :
  ∀ (j i x:Nat),i+j≤8->x<4294967296->∀ K,E2 Jy (j+K) (.mk (.mk d0 d1 d2 (.int .u32 x)) (.mk d4 d5 d6 (.int .i64 i)) c2 c3 c4 c5 c6 c7) h n
   = E2 Jy K (.mk (.mk d0 d1 d2 (.int .u32 (G5 j x))) (.mk d4 d5 d6 (.int .i64 (i+j))) c2 c3 c4 c5 c6 c7) h n
 | 0,i,x,_,_,K=>by rw [Nat.zero_add]; rfl
 | j+1,i,x,hj,hx,K=>by
  rw [show j+1+K=(j+K)+1 by omega,Ch]
  show SF (Jy _ h n) (E2 Jy (j+K))=_
  rw [Su (by omega) hx]
  show E2 Jy (j+K) _ h n=_
  rw [LO j (i+1) (Je x) (by omega) (RP hx) K,show i+1+j=i+(j+1) by omega]; rfl
end Go.Ev

namespace Go.Ev
set_option linter.unusedVariables false
theorem Kz (x:Nat):Je x=(x >>> 1) ^^^ (if x % 2=1 then 2197175160 else 0):=by
 show (x >>> 1) ^^^ (2197175160 &&& ((0+(4294967296 - (x &&& 1))) % 4294967296))=_
 rw [Nat.and_one_is_mod]
 rcases Nat.mod_two_eq_zero_or_one x with h | h <;> rw [h] <;> rfl
theorem TZ (a b:Nat):Je (a ^^^ b)=Je a ^^^ Je b:=by
 rw [Kz,Kz,Kz,Nat.shiftRight_xor_distrib]
 have h:(a ^^^ b) % 2=(a+b) % 2:=by
  have e:=Nat.xor_mod_two_pow (a:=a) (b:=b) (n:=1)
  rw [Nat.pow_one] at e
  rw [e]
  rcases Nat.mod_two_eq_zero_or_one a with ha | ha <;> rcases Nat.mod_two_eq_zero_or_one b with hb | hb <;> rw [ha,hb,Nat.add_mod,ha,hb] <;> rfl
 rcases Nat.mod_two_eq_zero_or_one a with ha | ha <;> rcases Nat.mod_two_eq_zero_or_one b with hb | hb
 ·have:(a ^^^ b) % 2=0:=by omega
  simp [ha,hb,this]
 ·have:(a ^^^ b) % 2=1:=by omega
  simp [ha,hb,this,Nat.xor_assoc]
 ·have:(a ^^^ b) % 2=1:=by omega
  simp only [ha,hb,this,if_true,if_false,Nat.xor_zero,reduceIte,Nat.zero_ne_one]
  simp only [Nat.xor_assoc,Nat.xor_comm (b >>> 1)]
 ·have:(a ^^^ b) % 2=0:=by omega
  simp only [ha,hb,this,reduceIte,Nat.xor_zero,Nat.zero_ne_one]
  generalize a >>> 1=p
  generalize b >>> 1=q
  apply Nat.eq_of_testBit_eq
  intro i
  simp only [Nat.testBit_xor]
  cases p.testBit i <;> cases q.testBit i <;> cases (2197175160:Nat).testBit i <;> rfl
theorem Pg:∀ (j a b:Nat),G5 j (a ^^^ b)=G5 j a ^^^ G5 j b
 | 0,_,_=>rfl
 | j+1,a,b=>by
  show G5 j (Je (a ^^^ b))=G5 j (Je a) ^^^ G5 j (Je b)
  rw [TZ,Pg]
theorem Tg (m:Nat):Je (2*m)=m:=by
 rw [Kz,Nat.mul_mod_right,Nat.shiftRight_eq_div_pow]; simp
theorem P4:∀ (j q:Nat),G5 j (2 ^ j*q)=q
 | 0,q=>by show 2 ^ 0*q=q; omega
 | j+1,q=>by
  show G5 j (Je (2 ^ (j+1)*q))=q
  rw [show 2 ^ (j+1)*q=2*(2 ^ j*q) by rw [Nat.pow_succ,Nat.mul_comm (2 ^ j) 2,Nat.mul_assoc],Tg,P4]
theorem Tr (y:Nat):y=(2 ^ 8*(y / 2 ^ 8)) ^^^ (y % 2 ^ 8):=by
 apply Nat.eq_of_testBit_eq
 intro i
 rw [Nat.testBit_xor,Nat.testBit_two_pow_mul,Nat.testBit_mod_two_pow,Nat.testBit_div_two_pow]
 by_cases h:8≤i
 ·have h2:¬ i<8:=by omega
  simp [h,h2,show i - 8+8=i by omega]
 ·have h2:i<8:=by omega
  simp [h,h2]
theorem R3:∀ (j:Nat) {x:Nat},x<4294967296->G5 j x<4294967296
 | 0,_,h=>h
 | j+1,x,h=>by show G5 j (Je x)<_; exact R3 j (RP h)
def Oh:Nat:=739192992287711479272199505450802174180944935565270117958735211195864883404034321072575759094604862722103638970562105654534965976895685875045062592379112792078985738769595739548904202597956689934399229134939183684703714920378025961387270778473281346239181994539903784708069763525514523240966634758967547723819948093640238732618841930738396489733218495472825776362786651876001733504161834172818020394346043168775838788836904094212573134772649703407841545716218812283123984658267516726659948613643534969466376019494666614718815429190684246327365394372519258139400530706807260825564948901732507176286259752944669944548605679086391305931301222988237278526118373278492307487107474296386730408839343753629123128283572704772544098648517013212824233746728729854273945055038163572363387039908578405517982904131040319505009390255243990278860523606265815895619710957563380635837315129012976704357344131429050367435482781212454439427280336740616644805562249867251859340971513883299426874200217165290071196282711253218164865174241416073419876796213293517950780480733835793334181716730049909888366296838117288969681076010175182486226749959458237712061794030512295298309798453151350168298336411933176330063767835252143862258384197256040876755067274410026075604127347481305827849130625987059819492849891529288490451730106428376839488665315100810248841715739596040091270955624355315201462555945279029196416991040143682248153287045556144390819759753283690710943841433520922330785319143598322120010359670046292912296136999474302691355293324886616216537430761212949134977443278613456733727644009057088654822989287437792990360527449046917776586498554113667460252688333953726837853077886002223252717428049737186417130969568838070377296274375688487884511950345697105344492065413654582468965021167618282726469469929715764674333614324035309623813703284835732759643444816186743644084768553800456975483023122915759126937036001171360984116527371042249105866775992680472790331893395027602898497596949565462107432141452181910127216554936352241472142685417685618824675396402282974391037184848625305334079832924861339728594832024687877422901193159812755254516361032103358958860399075665489958680801135040793967932263797765198140728704255468134266160630916650637156666977854355604551105352627939572551570066195951258251545213658746024110892771407706843609824354401912642345941057507434795836161327506684973593222243082074173577446865175872619707633030268690896528048779238513612740446475572226293760
abbrev O6 (y:Nat):Nat:=Nat.xor (Nat.shiftRight y 8) (Nat.land (Nat.shiftRight Oh (Nat.mul 32 (Nat.land y 255))) 4294967295)
theorem Vw:Xk (fun b=>Nat.beq (G5 8 b) (Nat.land (Nat.shiftRight Oh (Nat.mul 32 b)) 4294967295)) 256=true:=by kernel_rfl
theorem R9 (y:Nat):O6 y=G5 8 y:=by
 have h255:Nat.land y 255=y % 2 ^ 8:=Nat.and_two_pow_sub_one_eq_mod y 8
 have hb:y % 2 ^ 8<256:=Nat.mod_lt _ (by decide)
 have key:G5 8 (y % 2 ^ 8)=Nat.land (Nat.shiftRight Oh (Nat.mul 32 (y % 2 ^ 8))) 4294967295:=Nat.eq_of_beq_eq_true (VH Vw _ hb)
 have e:G5 8 y=G5 8 (2 ^ 8*(y / 2 ^ 8)) ^^^ G5 8 (y % 2 ^ 8):=by rw [←Pg,←Tr]
 rw [e,P4,key]
 show Nat.xor (Nat.shiftRight y 8) (Nat.land (Nat.shiftRight Oh (Nat.mul 32 (Nat.land y 255))) 4294967295)=_
 rw [h255]
 show (y >>> 8) ^^^ _=_
 rw [Nat.shiftRight_eq_div_pow]
theorem Yt {a b:Nat} {κ:V->R} (h:b≤a) (ha:a≤4611686018427387904):As (.int .i64 a) (.int .i64 b) κ=κ (.bool false):=by
 have e0:As (.int .i64 a) (.int .i64 b) κ=Cm (br (Nat.ble 9223372036854775808 a) (br (Nat.ble 9223372036854775808 b) (Nat.ble (Nat.succ a) b) true) (br (Nat.ble 9223372036854775808 b) false (Nat.ble (Nat.succ a) b))) fun r=>κ (.bool r):=rfl
 have h1:Nat.ble 9223372036854775808 a=false:=Bool.eq_false_iff.2 fun h=>by have:=Nat.le_of_ble_eq_true h; omega
 have h2:Nat.ble 9223372036854775808 b=false:=Bool.eq_false_iff.2 fun h=>by have:=Nat.le_of_ble_eq_true h; omega
 have h3:Nat.ble (Nat.succ a) b=false:=Bool.eq_false_iff.2 fun h=>by have:=Nat.le_of_ble_eq_true h; omega
 rw [e0,BK,h1,h2,h3]; rfl
theorem V0 {p:K4} {off len cap esz i:Nat} {ex:Bool} {κ:V->R} (h:i<len) (hi:i<9223372036854775808):Av esz (.sl p off len cap ex esz) (.int .i64 i) κ=κ (.ptr p (off+i*esz)):=by
 have e0:Av esz (.sl p off len cap ex esz) (.int .i64 i) κ=br (Nat.ble (Nat.succ i) 9223372036854775808) (br (Nat.beq esz esz) (br (Nat.ble (Nat.succ i) len) (Aj (Nat.add off (Nat.mul i esz)) fun o=>κ (.ptr p o)) (.fail "")) (.fail "")) (.fail ""):=rfl
 rw [e0,show Nat.ble (Nat.succ i) 9223372036854775808=true from Nat.ble_eq_true_of_le hi,show Nat.ble (Nat.succ i) len=true from Nat.ble_eq_true_of_le h,show Nat.beq esz esz=true from Nat.beq_refl _]
 show Aj (Nat.add off (Nat.mul i esz)) (fun o=>κ (.ptr p o))=_
 rw [Ai]; rfl
theorem TB {p:K4} {off m c:Nat} {h:Heap} {sup:Bool} {prev:Option K4} {κ:V->R} (hp:Ar p h=some (.c (.b m c) sup prev)) (hv:off<m):Aa (.ptr p off) h κ=κ (.int .u8 (lo (sh c off) 1)):=by
 show HH p h (fun cs _ _=>Gd cs off κ)=_
 rw [F9]
 have e:(I4 p h fun cs _ _=>Gd cs off κ)=@Option.rec Ob (fun _=>R) (.fail "") (fun o=>@Ob.rec (fun _=>R) (fun cs _ _=>Gd cs off κ) (C4 "") (FQ "") (.fail "") (AT "") o) (Ar p h):=E1 _ _ _
 rw [e,hp]
 show br (Nat.ble (Nat.succ off) m) (Aj (lo (sh c off) 1) fun r=>κ (.int .u8 r)) (.fail "")=_
 rw [show Nat.ble (Nat.succ off) m=true from Nat.ble_eq_true_of_le hv]
 show Aj (lo (sh c off) 1) (fun r=>κ (V.int .u8 r))=_
 rw [Ai]
theorem Rm (c:Nat):lo c 1<256:=by rw [DH]; exact Nat.mod_lt _ (by decide)
theorem RB (c a:Nat):sh (sh c a) 1=sh c (a+1):=by
 rw [EJ,EJ,EJ,Nat.div_div_eq_div_mul,←Nat.pow_add]
def slE (v:V) (κ0:R) (κ:K4->Nat->Nat->Nat->R):R :=
 @V.rec (fun _=>R) (fun _=>Unit) (fun _ _=>κ0) (fun _=>κ0) (fun _ _=>κ0) (fun p off len _ _ esz=>κ p off len esz) (fun _ _=>κ0) (fun _ _=>κ0) (fun _=>κ0) (fun _=>κ0) (fun _ _ _=>κ0) (fun _ _=>κ0) (fun _=>κ0) () (fun _ _ _ _=>()) v
theorem RF {G:R->Prop} {v:V} {κ0:R} {κ:K4->Nat->Nat->Nat->R} (g0:G κ0) (g1:∀ p off len cap ex esz,v = .sl p off len cap ex esz->G (κ p off len esz)):G (slE v κ0 κ):=by
 cases v with
 | sl p off len cap ex esz=>exact g1 p off len cap ex esz rfl
 | _=>exact g0
def X4 (o:Cu) (κ0:R) (κ:Nat->Nat->R):R :=
 @Option.rec Ob (fun _=>R) κ0 (fun o=>@Ob.rec (fun _=>R) (fun cs _ _=>@Cs.rec (fun _=>R) (fun _=>κ0) κ cs) (fun _ _ _=>κ0) (fun _ _ _ _=>κ0) κ0 (fun _ _=>κ0) o) o
theorem PC {G:R->Prop} {o:Cu} {κ0:R} {κ:Nat->Nat->R} (g0:G κ0) (g1:∀ n c sup prev,o=some (.c (.b n c) sup prev)->G (κ n c)):G (X4 o κ0 κ):=by
 cases o with
 | none=>exact g0
 | some o=>cases o with
  | c cs sup prev=>cases cs with
   | l xs=>exact g0
   | b n c=>exact g1 n c sup prev rfl
  | _=>exact g0
def YN (v:V) (κ0:R) (κ:Nat->R):R :=
 @V.rec (fun _=>R) (fun _=>Unit) (fun k r=>br (Be k .u64) (κ r) κ0) (fun _=>κ0) (fun _ _=>κ0) (fun _ _ _ _ _ _=>κ0) (fun _ _=>κ0) (fun _ _=>κ0) (fun _=>κ0) (fun _=>κ0) (fun _ _ _=>κ0) (fun _ _=>κ0) (fun _=>κ0) () (fun _ _ _ _=>()) v
theorem Un {G:R->Prop} {v:V} {κ0:R} {κ:Nat->R} (g0:G κ0) (g1:∀ r,v = .int .u64 r->G (κ r)):G (YN v κ0 κ):=by
 cases v with
 | int k r =>
  show G (br (Be k .u64) (κ r) κ0)
  cases hb:Be k .u64 with
  | false=>exact g0
  | true=>exact g1 r (by rw [B3.1 hb])
 | _=>exact g0
def F6:S->Heap->K4->R:=fun t h n=>g6 t fun z5=>g5 t fun z6=>As z5 z6 fun z7=>Aq z7 (Ac 1 (g4 t fun z8=>Av 1 z8 z5 fun z9=>Aa z9 h fun za=>g3 t fun zb=>B1 .u32 za fun zc=>C5 zb zc fun zd=>Ac 2 (w3 t zd fun t=>w7 t (.int .i64 0) fun t=>AE Jy t h n) fun t h n=>.ok .nrm t h n) fun t h n=>g6 t fun zo=>Ag zo (.int .i64 1) fun zp=>w6 t zp fun t=>.ok .nrm t h n)<|.ok (.exit 0) t h n
def NZ (j:Nat):Nat->Nat->Nat:=@Nat.rec (fun _=>Nat->Nat->Nat) (fun _ x=>x) (fun _ ih d x=>ih (sh d 1) (O6 (Nat.xor x (lo d 1)))) j
def WF (j:Nat):Nat->Nat->(Nat->R)->R:=@Nat.rec (fun _=>Nat->Nat->(Nat->R)->R) (fun _ x κ=>κ x) (fun _ ih d x κ=>Aj (Nat.xor x (lo d 1)) fun y=>Aj (O6 y) fun x=>Aj (sh d 1) fun d=>ih d x κ) j
theorem S4:∀ (j d x:Nat) (κ:Nat->R),WF j d x κ=κ (NZ j d x)
 | 0,_,_,_=>rfl
 | j+1,d,x,κ=>by
  show Aj (Nat.xor x (lo d 1)) (fun y=>Aj (O6 y) fun x=>Aj (sh d 1) fun d=>WF j d x κ)=κ (NZ j (sh d 1) (O6 (Nat.xor x (lo d 1))))
  rw [Ai,Ai,Ai,S4]
theorem Wf (d j:Nat):lo (lo d (j+1)) 1=lo d 1:=by
 rw [DH,DH,DH,Nat.pow_succ,Nat.mod_mul_left_mod]
theorem Wi (d j:Nat):sh (lo d (j+1)) 1=lo (sh d 1) j:=by
 rw [DH,DH,EJ,EJ,Nat.pow_succ,Nat.pow_one,Nat.mul_comm,Nat.mod_mul_right_div_self]
theorem R4:∀ (j d x:Nat),NZ j (lo d j) x=NZ j d x
 | 0,_,_=>rfl
 | j+1,d,x=>by
  show NZ j (sh (lo d (j+1)) 1) (O6 (Nat.xor x (lo (lo d (j+1)) 1)))=NZ j (sh d 1) (O6 (Nat.xor x (lo d 1)))
  rw [Wf,Wi,R4]
def Vc:OE:=fun t h κ κ0=>g6 t fun i=>g5 t fun m=>g4 t fun s=>g3 t fun x=>M3 i κ0 fun i0=>M3 m κ0 fun m0=>slE s κ0 fun p off len esz=>Y5 x κ0 fun x0=>Bu p h fun o=>X4 o κ0 fun nb c =>
 br (Nat.ble (Nat.succ i0) m0) (br (Nat.ble m0 len) (br (Nat.ble (Nat.add off len) nb) (br (Nat.beq esz 1) (br (Nat.ble (Nat.succ x0) 4294967296) (br (Nat.ble m0 4611686018427387904)
  (Aj (Nat.sub m0 i0) fun j=>Aj (lo (sh c (Nat.add off i0)) j) fun d=>WF j d x0 fun x=>w3 t (.int .u32 x) fun t=>w6 t (.int .i64 m0) fun t=>w7 t (.int .i64 8) fun t=>κ j t) κ0) κ0) κ0) κ0) κ0) κ0
theorem UM (body:S->Heap->K4->R) (k:Nat) (t:S) (h:Heap) (n:K4):E2 body (k+1) t h n=SF (body t h n) (E2 body k):=Ch body (k+1) t h n
theorem OB {id:Nat} {t:S} {h:Heap} {n:K4} {κ:S->Heap->K4->R}:Ac id (.ok (.exit id) t h n) κ=κ t h n:=by
 show br (Nat.beq id id) (κ t h n) (.ok (.exit id) t h n)=κ t h n
 rw [Nat.beq_refl]; rfl
theorem Sj {d0 d1 d2 d4 d5 d6:V} {c2 c3 c4 c5 c6 c7:SQ} {h:Heap} {n:K4} {x:Nat} (hx:x<4294967296) :
  AE Jy (.mk (.mk d0 d1 d2 (.int .u32 x)) (.mk d4 d5 d6 (.int .i64 0)) c2 c3 c4 c5 c6 c7) h n = .ok (.exit 2) (.mk (.mk d0 d1 d2 (.int .u32 (G5 8 x))) (.mk d4 d5 d6 (.int .i64 8)) c2 c3 c4 c5 c6 c7) h n:=by
 show E2 Jy 1000000000 _ _ _=_
 rw [show (1000000000:Nat)=8+(999999991+1) from rfl,LO 8 0 x (by omega) hx,UM]
 have e:Jy (.mk (.mk d0 d1 d2 (.int .u32 (G5 8 x))) (.mk d4 d5 d6 (.int .i64 (0+8))) c2 c3 c4 c5 c6 c7) h n = .ok (.exit 2) (.mk (.mk d0 d1 d2 (.int .u32 (G5 8 x))) (.mk d4 d5 d6 (.int .i64 (0+8))) c2 c3 c4 c5 c6 c7) h n:=by
  unfold Jy
  show As (.int .i64 (0+8)) (.int .i64 8) _=_
  rw [Yt (by omega) (by omega)]; rfl
 rw [e]; rfl
theorem Uz {k:IntKind} {r:Nat} {κ:V->R} (h:r<256) (hk:256≤Mk k):B1 k (.int .u8 r) κ=κ (.int k r):=by
 have e0:B1 k (.int .u8 r) κ=br (Nat.ble (Nat.succ r) 256) (Aj (Nat.mod r (Mk k)) fun r=>κ (.int k r)) (br (Nat.ble (Mk k) 256) (Aj (Nat.mod r (Mk k)) fun r=>κ (.int k r)) (Aj (Nat.sub (Mk k) (Nat.sub 256 r)) fun r=>κ (.int k r))):=rfl
 rw [e0,show Nat.ble (Nat.succ r) 256=true from Nat.ble_eq_true_of_le h]
 show Aj (Nat.mod r (Mk k)) (fun r=>κ (V.int k r))=_
 rw [Ai,show Nat.mod r (Mk k)=r from Nat.mod_eq_of_lt (by omega)]
theorem Lg {d0 d1 d2 d7:V} {c2 c3 c4 c5 c6 c7:SQ} {h:Heap} {n p:K4} {off len cap m i x nb c:Nat} {ex sup:Bool} {prev:Option K4}
  (hp:Ar p h=some (.c (.b nb c) sup prev)) (hi:i<m) (hm:m≤len) (hl:off+len≤nb) (hb:m≤4611686018427387904) (hx:x<4294967296) :
  F6 (.mk (.mk d0 d1 d2 (.int .u32 x)) (.mk (.sl p off len cap ex 1) (.int .i64 m) (.int .i64 i) d7) c2 c3 c4 c5 c6 c7) h n
   = .ok .nrm (.mk (.mk d0 d1 d2 (.int .u32 (O6 (Nat.xor x (lo (sh c (off+i)) 1))))) (.mk (.sl p off len cap ex 1) (.int .i64 m) (.int .i64 (i+1)) (.int .i64 8)) c2 c3 c4 c5 c6 c7) h n:=by
 unfold F6
 show As (.int .i64 i) (.int .i64 m) _=_
 rw [R8 hi hb]
 show Ac 1 (Av 1 (.sl p off len cap ex 1) (.int .i64 i) _) _=_
 rw [V0 (by omega) (by omega),TB hp (by omega)]
 show Ac 1 (B1 .u32 (.int .u8 (lo (sh c (off+i*1)) 1)) _) _=_
 rw [Uz (Rm _) (by decide),Nat.mul_one]
 have e3:∀ (a b:Nat) (κ:V->R),C5 (.int .u32 a) (.int .u32 b) κ=κ (.int .u32 (Nat.xor a b)):=fun a b κ=>by
  have e0:C5 (.int .u32 a) (.int .u32 b) κ=Aj (Nat.xor a b) fun r=>κ (.int .u32 r):=rfl
  rw [e0,Ai]
 rw [e3]
 have hx2:Nat.xor x (lo (sh c (off+i)) 1)<4294967296:=Nat.xor_lt_two_pow (n:=32) hx (Nat.lt_trans (Rm _) (by decide))
 rw [R9]
 generalize Nat.xor x (lo (sh c (off+i)) 1)=y at hx2
 show Ac 1 (Ac 2 (AE Jy (.mk (.mk d0 d1 d2 (.int .u32 y)) (.mk (.sl p off len cap ex 1) (.int .i64 m) (.int .i64 i) (.int .i64 0)) c2 c3 c4 c5 c6 c7) h n) _) _=_
 rw [Sj hx2,OB,Gk]
 show Ag (.int .i64 i) (.int .i64 1) _=_
 rw [LJ (by omega)]
theorem JW {d0 d1 d2:V} {c2 c3 c4 c5 c6 c7:SQ} {h:Heap} {n p:K4} {off len cap m nb c:Nat} {ex sup:Bool} {prev:Option K4}
  (hp:Ar p h=some (.c (.b nb c) sup prev)) (hm:m≤len) (hl:off+len≤nb) (hb:m≤4611686018427387904) :
  ∀ (j i x:Nat) (d7:V),i+(j+1)≤m->x<4294967296->∀ K,E2 F6 (j+1+K) (.mk (.mk d0 d1 d2 (.int .u32 x)) (.mk (.sl p off len cap ex 1) (.int .i64 m) (.int .i64 i) d7) c2 c3 c4 c5 c6 c7) h n
   = E2 F6 K (.mk (.mk d0 d1 d2 (.int .u32 (NZ (j+1) (sh c (off+i)) x))) (.mk (.sl p off len cap ex 1) (.int .i64 m) (.int .i64 (i+(j+1))) (.int .i64 8)) c2 c3 c4 c5 c6 c7) h n
 | 0,i,x,d7,hj,hx,K=>by
  rw [show 0+1+K=K+1 by omega,Ch]
  show SF (F6 _ h n) (E2 F6 K)=_
  rw [Lg hp (by omega) hm hl hb hx]; rfl
 | j+1,i,x,d7,hj,hx,K=>by
  rw [show j+1+1+K=(j+1+K)+1 by omega,Ch]
  show SF (F6 _ h n) (E2 F6 (j+1+K))=_
  rw [Lg hp (by omega) hm hl hb hx]
  show E2 F6 (j+1+K) _ h n=_
  rw [JW hp hm hl hb j (i+1) _ _ (by omega) (by rw [R9]; exact R3 8 (Nat.xor_lt_two_pow (n:=32) hx (Nat.lt_trans (Rm _) (by decide)))) K]
  have e:NZ (j+1+1) (sh c (off+i)) x=NZ (j+1) (sh (sh c (off+i)) 1) (O6 (Nat.xor x (lo (sh c (off+i)) 1))):=rfl
  rw [e,RB,show off+(i+1)=off+i+1 by omega,show i+1+(j+1)=i+(j+1+1) by omega]
theorem Tl:LR F6 Vc:=by
 intro t h κ κ0
 cases t with
 | mk c0 c1 c2 c3 c4 c5 c6 c7 =>
  cases c0 with
  | mk d0 d1 d2 x =>
   cases c1 with
   | mk s m i d7 =>
    obtain ⟨T,hT⟩:∃ T:S,T = .mk (.mk d0 d1 d2 x) (.mk s m i d7) c2 c3 c4 c5 c6 c7:=⟨_,rfl⟩
    obtain ⟨G,hG⟩:∃ G:R->Prop,∀ r,G r ↔ (r=κ0 ∨ ∃ j t',r=κ j t' ∧ ∀ k n,E2 F6 (j+k) T h n=E2 F6 k t' h n):=⟨_,fun r=>Iff.rfl⟩
    have g0:G κ0:=(hG _).2 (.inl rfl)
    rw [←hT]
    refine (hG _).1 ?_
    rw [hT]
    refine Fn (G:=G) g0 fun i0 hi=>Fn (G:=G) g0 fun m0 hm=>RF (G:=G) g0 fun p off len cap ex esz hs=>Us (G:=G) g0 fun x0 hx=>HM (G:=G) (PC (G:=G) g0 fun nb c sup prev hp=>?_)
    subst hi hm hs hx
    refine Dn (G:=G) g0 fun b1=>Dn (G:=G) g0 fun b2=>Dn (G:=G) g0 fun b3=>Dn (G:=G) g0 fun b4=>Dn (G:=G) g0 fun b5=>Dn (G:=G) g0 fun b6=>?_
    have b1:=Nat.le_of_ble_eq_true b1
    have b2:=Nat.le_of_ble_eq_true b2
    have b3:off+len≤nb:=Nat.le_of_ble_eq_true b3
    have b4:=Nat.eq_of_beq_eq_true b4
    have b5:=Nat.le_of_ble_eq_true b5
    have b6:=Nat.le_of_ble_eq_true b6
    subst b4
    obtain ⟨j,hj⟩:∃ j,Nat.sub m0 i0=j+1:=⟨m0 - i0 - 1,by show m0 - i0=_; omega⟩
    have hj':m0 - i0=j+1:=hj
    rw [hj,Ai,Ai,S4,R4]
    refine (hG _).2 (.inr ⟨j+1,_,rfl,fun K n=>?_⟩)
    rw [hT,JW hp b2 b3 b6 j i0 x0 d7 (by omega) b5 K,show i0+(j+1)=m0 by omega]; rfl
theorem Vz:AE F6=LG F6 Vc:=Jz Tl
def Gi:S->Heap->K4->R:=fun t h n=>g5 t fun z3=>g4 t fun z4=>As z3 z4 fun z5=>Aq z5 (Ac 1 (g3 t fun z6=>Av 1 z6 z3 fun z7=>Aa z7 h fun z8=>g2 t fun z9=>I9 z9 (.int .u64 8) fun za=>B1 .u64 z8 fun zb=>NW za zb fun zc=>w2 t zc fun t=>.ok .nrm t h n) fun t h n=>g5 t fun zd=>Ag zd (.int .i64 1) fun ze=>w5 t ze fun t=>.ok .nrm t h n)<|.ok (.exit 0) t h n
abbrev Kd (x b:Nat):Nat:=Nat.lor (Nat.mod (Nat.shiftLeft x 8) 18446744073709551616) b
def IG (j:Nat):Nat->Nat->Nat:=@Nat.rec (fun _=>Nat->Nat->Nat) (fun _ x=>x) (fun _ ih d x=>ih (sh d 1) (Kd x (lo d 1))) j
def Ua (j:Nat):Nat->Nat->(Nat->R)->R:=@Nat.rec (fun _=>Nat->Nat->(Nat->R)->R) (fun _ x κ=>κ x) (fun _ ih d x κ=>Aj (Kd x (lo d 1)) fun x=>Aj (sh d 1) fun d=>ih d x κ) j
theorem OV:∀ (j d x:Nat) (κ:Nat->R),Ua j d x κ=κ (IG j d x)
 | 0,_,_,_=>rfl
 | j+1,d,x,κ=>by
  show Aj (Kd x (lo d 1)) (fun x=>Aj (sh d 1) fun d=>Ua j d x κ)=κ (IG j (sh d 1) (Kd x (lo d 1)))
  rw [Ai,Ai,OV]
theorem OT:∀ (j d x:Nat),IG j (lo d j) x=IG j d x
 | 0,_,_=>rfl
 | j+1,d,x=>by
  show IG j (sh (lo d (j+1)) 1) (Kd x (lo (lo d (j+1)) 1))=IG j (sh d 1) (Kd x (lo d 1))
  rw [Wf,Wi,OT]
def UN:OE:=fun t h κ κ0=>g5 t fun i=>g4 t fun m=>g3 t fun s=>g2 t fun x=>M3 i κ0 fun i0=>M3 m κ0 fun m0=>slE s κ0 fun p off len esz=>YN x κ0 fun x0=>Bu p h fun o=>X4 o κ0 fun nb c =>
 br (Nat.ble (Nat.succ i0) m0) (br (Nat.ble m0 len) (br (Nat.ble (Nat.add off len) nb) (br (Nat.beq esz 1) (br (Nat.ble m0 4611686018427387904)
  (Aj (Nat.sub m0 i0) fun j=>Aj (lo (sh c (Nat.add off i0)) j) fun d=>Ua j d x0 fun x=>w2 t (.int .u64 x) fun t=>w5 t (.int .i64 m0) fun t=>κ j t) κ0) κ0) κ0) κ0) κ0
theorem Qm {d0 d1 d6 d7:V} {c2 c3 c4 c5 c6 c7:SQ} {h:Heap} {n p:K4} {off len cap m i x nb c:Nat} {ex sup:Bool} {prev:Option K4}
  (hp:Ar p h=some (.c (.b nb c) sup prev)) (hi:i<m) (hm:m≤len) (hl:off+len≤nb) (hb:m≤4611686018427387904) :
  Gi (.mk (.mk d0 d1 (.int .u64 x) (.sl p off len cap ex 1)) (.mk (.int .i64 m) (.int .i64 i) d6 d7) c2 c3 c4 c5 c6 c7) h n
   = .ok .nrm (.mk (.mk d0 d1 (.int .u64 (Kd x (lo (sh c (off+i)) 1))) (.sl p off len cap ex 1)) (.mk (.int .i64 m) (.int .i64 (i+1)) d6 d7) c2 c3 c4 c5 c6 c7) h n:=by
 unfold Gi
 show As (.int .i64 i) (.int .i64 m) _=_
 rw [R8 hi hb]
 show Ac 1 (Av 1 (.sl p off len cap ex 1) (.int .i64 i) _) _=_
 rw [V0 (by omega) (by omega),TB hp (by omega),Nat.mul_one]
 have e1:∀ (κ:V->R),I9 (.int .u64 x) (.int .u64 8) κ=κ (.int .u64 (Nat.mod (Nat.shiftLeft x 8) 18446744073709551616)):=fun κ=>by
  have e0:I9 (.int .u64 x) (.int .u64 8) κ=Aj (Nat.mod (Nat.shiftLeft x 8) 18446744073709551616) fun r=>κ (.int .u64 r):=rfl
  rw [e0,Ai]
 have e2:∀ (a b:Nat) (κ:V->R),NW (.int .u64 a) (.int .u64 b) κ=κ (.int .u64 (Nat.lor a b)):=fun a b κ=>by
  have e0:NW (.int .u64 a) (.int .u64 b) κ=Aj (Nat.lor a b) fun r=>κ (.int .u64 r):=rfl
  rw [e0,Ai]
 show Ac 1 (I9 (.int .u64 x) (.int .u64 8) _) _=_
 rw [e1,Uz (Rm _) (by decide),e2,Gk]
 show Ag (.int .i64 i) (.int .i64 1) _=_
 rw [LJ (by omega)]
theorem JQ {d0 d1 d6 d7:V} {c2 c3 c4 c5 c6 c7:SQ} {h:Heap} {n p:K4} {off len cap m nb c:Nat} {ex sup:Bool} {prev:Option K4}
  (hp:Ar p h=some (.c (.b nb c) sup prev)) (hm:m≤len) (hl:off+len≤nb) (hb:m≤4611686018427387904) :
  ∀ (j i x:Nat),i+j≤m->∀ K,E2 Gi (j+K) (.mk (.mk d0 d1 (.int .u64 x) (.sl p off len cap ex 1)) (.mk (.int .i64 m) (.int .i64 i) d6 d7) c2 c3 c4 c5 c6 c7) h n
   = E2 Gi K (.mk (.mk d0 d1 (.int .u64 (IG j (sh c (off+i)) x)) (.sl p off len cap ex 1)) (.mk (.int .i64 m) (.int .i64 (i+j)) d6 d7) c2 c3 c4 c5 c6 c7) h n
 | 0,i,x,hj,K=>by rw [Nat.zero_add]; rfl
 | j+1,i,x,hj,K=>by
  rw [show j+1+K=(j+K)+1 by omega,Ch]
  show SF (Gi _ h n) (E2 Gi (j+K))=_
  rw [Qm hp (by omega) hm hl hb]
  show E2 Gi (j+K) _ h n=_
  rw [JQ hp hm hl hb j (i+1) _ (by omega) K]
  have e:IG (j+1) (sh c (off+i)) x=IG j (sh (sh c (off+i)) 1) (Kd x (lo (sh c (off+i)) 1)):=rfl
  rw [e,RB,show off+(i+1)=off+i+1 by omega,show i+1+j=i+(j+1) by omega]
theorem Sv:LR Gi UN:=by
 intro t h κ κ0
 cases t with
 | mk c0 c1 c2 c3 c4 c5 c6 c7 =>
  cases c0 with
  | mk d0 d1 x s =>
   cases c1 with
   | mk m i d6 d7 =>
    obtain ⟨T,hT⟩:∃ T:S,T = .mk (.mk d0 d1 x s) (.mk m i d6 d7) c2 c3 c4 c5 c6 c7:=⟨_,rfl⟩
    obtain ⟨G,hG⟩:∃ G:R->Prop,∀ r,G r ↔ (r=κ0 ∨ ∃ j t',r=κ j t' ∧ ∀ k n,E2 Gi (j+k) T h n=E2 Gi k t' h n):=⟨_,fun r=>Iff.rfl⟩
    have g0:G κ0:=(hG _).2 (.inl rfl)
    rw [←hT]
    refine (hG _).1 ?_
    rw [hT]
    refine Fn (G:=G) g0 fun i0 hi=>Fn (G:=G) g0 fun m0 hm=>RF (G:=G) g0 fun p off len cap ex esz hs=>Un (G:=G) g0 fun x0 hx=>HM (G:=G) (PC (G:=G) g0 fun nb c sup prev hp=>?_)
    subst hi hm hs hx
    refine Dn (G:=G) g0 fun b1=>Dn (G:=G) g0 fun b2=>Dn (G:=G) g0 fun b3=>Dn (G:=G) g0 fun b4=>Dn (G:=G) g0 fun b6=>?_
    have b1:=Nat.le_of_ble_eq_true b1
    have b2:=Nat.le_of_ble_eq_true b2
    have b3:off+len≤nb:=Nat.le_of_ble_eq_true b3
    have b4:=Nat.eq_of_beq_eq_true b4
    have b6:=Nat.le_of_ble_eq_true b6
    subst b4
    rw [Ai,Ai,OV,OT]
    refine (hG _).2 (.inr ⟨Nat.sub m0 i0,_,rfl,fun K n=>?_⟩)
    rw [hT,JQ hp b2 b3 b6 (Nat.sub m0 i0) i0 x0 (by show i0+(m0 - i0)≤m0; omega) K,show i0+Nat.sub m0 i0=m0 by show i0+(m0 - i0)=m0; omega]; rfl
theorem Vj:AE Gi=LG Gi UN:=Jz Sv
end Go.Ev

namespace Go.Ev
set_option linter.unusedVariables false
def Kk (r:Nat) (f:Nat->R):R:=@Nat.rec (fun _=>R) (.fail "") (fun m ih=>@Nat.rec (fun _=>R) (f 0) (fun _ _=>.both ih (f m)) m) r
theorem Sy {f:Nat->R} {Φ:R->Prop}:∀ {r:Nat},(Kk r f).sat Φ->∀ i,i<r->(f i).sat Φ:=by
 intro r
 induction r with
 | zero=>intro _ i hi; omega
 | succ m ih =>
  intro hs i hi
  cases m with
  | zero =>
   have:i=0:=by omega
   subst this; exact hs
  | succ m =>
   have hs:(R.both (Kk (m+1) f) (f (m+1))).sat Φ:=hs
   by_cases e:i=m+1
   ·subst e; exact hs.2
   ·exact ih hs.1 i (by omega)
def O7 (m m' j:Nat) (h:Heap) (n:K4):R :=
 br (Nat.beq m' (Nat.add 36893488147419103232 m)) (Aj (Nat.mod j 18446744073709551616) fun lo=>Aj (Nat.div j 18446744073709551616) fun hi=>.rv (.oth (.iv .i64 lo hi)) h n) (.fail "")
def Ow:Gr:=fun args h n =>
 Da args fun v l=>Da l fun q l=>GM l (E6 q fun k m=>br (Be k .i64) (br (Nat.ble 1 m) (br (Nat.ble m 1000000)
  (Zd v (fun m' j=>br (Nat.beq m' m) (.rv (.int .i64 j) h n) (O7 m m' j h n))<|J7 v fun j lo hi=>br (Be j .i64) (br (Nat.beq lo hi) (br (Nat.ble (Nat.succ lo) 9223372036854775808) (Aj (Nat.mod lo m) fun i=>.rv (.int .i64 i) h n) (Kk m fun i=>.rv (.int .i64 i) h n)) (Kk m fun i=>.rv (.int .i64 i) h n)) (.fail "")) (.fail "")) (.fail "")) (.fail ""))
theorem BP {P:Program} {f:FuncId} {fn:Func} {c:Code} {xs:Array Value} {w:World} {R:Value->World->Prop} (hf:P.funcs[f]? = some fn) (hb:fn.body=some c) (hn:(fn.name == "runtime.NumGoroutine")=false)
  (h:Calls P f xs w fun e w'=>∃ v,e = .returned v∧R v w'):HR P f xs w R:=by
 intro o a K Q hK
 have hn':fn.name ≠ "runtime.NumGoroutine":=by simpa using hn
 have e:(callFunc f xs).run P w = .ok (.enter f xs) w:=by simp [callFunc,hf,hn',hb]
 rw [e]
 show Calls P f xs w _
 refine h.mono fun e w' ⟨v,he,hv⟩=>?_
 subst he
 exact hK v w' hv
def PD (r:Nat) (m:Nat):Nat->Nat->(Nat->R)->R :=
 @Nat.rec (fun _=>Nat->Nat->(Nat->R)->R) (fun _ a κ=>κ a)
  (fun _ ih c a κ=>br (Nat.beq (lo c 1) r) (Aj (sh c 1) fun d=>Aj (Nat.succ a) fun a=>ih d a κ) (Aj (sh c 1) fun d=>ih d a κ)) m
theorem VF (b:UInt8) (l:List UInt8):∀ (a:Nat) (κ:Nat->R),PD b.toNat l.length (AV l) a κ=κ (a+Lib.countByte l b):=by
 induction l with
 | nil=>intro a κ; show κ a=κ (a+Lib.countByte [] b); simp [Lib.countByte]
 | cons x l ih =>
  intro a κ
  have hx:=x.toNat_lt
  have e0:lo (AV (x::l)) 1=x.toNat:=by rw [DH]; simp only [AV]; omega
  have e1:sh (AV (x::l)) 1=AV l:=by rw [EJ]; simp only [AV]; omega
  have e2:PD b.toNat (x::l).length (AV (x::l)) a κ=br (Nat.beq x.toNat b.toNat) (PD b.toNat l.length (AV l) (a+1) κ) (PD b.toNat l.length (AV l) a κ):=by
   have:PD b.toNat (x::l).length (AV (x::l)) a κ=br (Nat.beq (lo (AV (x::l)) 1) b.toNat) (Aj (sh (AV (x::l)) 1) fun d=>Aj (Nat.succ a) fun a=>PD b.toNat l.length d a κ) (Aj (sh (AV (x::l)) 1) fun d=>PD b.toNat l.length d a κ):=rfl
   rw [this,e0,e1,Ai,Ai,Ai]
  rw [e2,ih,ih]
  have hc:Lib.countByte (x::l) b=Lib.countByte l b+if x == b then 1 else 0:=by unfold Lib.countByte; rw [List.count_cons]
  rw [hc]
  by_cases hb:x=b
  ·subst hb
   rw [Nat.beq_refl,AD]; simp; congr 1; omega
  ·have h1:Nat.beq x.toNat b.toNat=false:=by
    cases h:Nat.beq x.toNat b.toNat with
    | false=>rfl
    | true=>exact absurd (UInt8.toNat_inj.1 (Nat.eq_of_beq_eq_true h)) hb
   have h2:(x == b)=false:=by simpa using hb
   rw [h1,AR,h2]; simp
def DX:Gr:=fun args h n =>
 Da args fun x l=>Da l fun y l=>GM l (Bd x fun m c=>E6 y fun k r=>br (Be k .u8) (br (Nat.ble m 1000000000) (PD r m c 0 fun i=>.rv (.int .i64 i) h n) (.fail "")) (.fail ""))
theorem Hj {P:Program} {ρ:Env} {B:Nat} {f:FuncId} (b:Bare P f Extern.BytealgCount.count):EE P ρ B f DX:=by
 intro args h n v h1 n1 hx φ w xs g hr
 have hg:(DX args h n).good:=by rw [hx]; trivial
 unfold DX at hx hg
 obtain ⟨x,l,rfl,q1⟩:=Br hg
 rw [q1] at hx hg
 obtain ⟨y,l,rfl,q2⟩:=Br hg
 rw [q2] at hx hg
 obtain ⟨rfl,q3⟩:=Cj hg
 rw [q3] at hx
 obtain ⟨m,c,rfl,hx⟩:=OQ hx
 obtain ⟨k,r,rfl,hx⟩:=Q9 hx
 obtain ⟨hk,hx⟩:=C3 hx
 have:=B3.1 hk
 subst this
 obtain ⟨hm,hx⟩:=C3 hx
 have hm:=Ao.1 hm
 obtain ⟨x1,ys,hxs,hr1,hr⟩:=Au.1 hr
 obtain ⟨x2,ys,rfl,hr2,hr⟩:=Au.1 hr
 obtain rfl:=AH.1 hr
 obtain ⟨s,rfl,hsz,hc⟩:=(by simpa only [AL] using hr1:∃ s:ByteArray,x1 = .string s∧s.size=m∧AV s.data.toList=c)
 obtain ⟨hlt,rfl⟩:=(by simpa only [AL] using hr2:r<Mk .u8∧x2 = .int .u8 (BW .u8 r))
 have hlt:r<256:=hlt
 have hdec:BW .u8 r=(r:Int):=Az (by show r<256; exact hlt)
 obtain rfl:xs = #[.string s,.int .u8 (BW .u8 r)]:=by cases xs; simp at hxs; simp [hxs]
 rw [hdec]
 refine b.runs (Lib.run_countString s r w) ⟨φ,?_⟩
 have hb:((r:Int).toNat.toUInt8).toNat=r:=by
  simp only [Int.toNat_natCast]
  exact UInt8.toNat_ofNat_of_lt' (show r<2 ^ 8 from hlt)
 have hl:s.data.toList.length=m:=by rw [←hsz]; rfl
 have key:=VF ((r:Int).toNat.toUInt8) s.data.toList 0 (fun i=>R.rv (.int .i64 i) h n)
 rw [hb,hl,hc] at key
 rw [key] at hx
 have hle:Lib.countByte s.data.toList ((r:Int).toNat.toUInt8)≤m:=by rw [←hl]; exact List.count_le_length
 cases hx
 refine ⟨Fr.refl h φ n w,g,?_⟩
 simp only [AL]
 rw [Nat.zero_add]
 have h9:Lib.countByte s.data.toList ((r:Int).toNat.toUInt8)<9223372036854775808:=by omega
 exact ⟨Nat.lt_trans h9 (by decide),congrArg (Value.int .i64) (Az (k:=.i64) h9).symm⟩
def RG (P:Program) (f:FuncId):Prop :=
 ∀ (x k:Int) (w:World),-9223372036854775808≤x->x<9223372036854775808->0<k->k≤1000000->Calls P f #[.int .i64 x,.int .i64 k] w fun e w'=>e = .returned (.int .i64 ((x.natAbs % k.toNat:Nat):Int))∧w'=w
section
variable {P:Program} {ρ:Env} {B:Nat}
theorem P1 {f:FuncId} {fn:Func} (hf:P.funcs[f]? = some fn) (hb:fn.body.isSome=true) (hn:(fn.name == "runtime.NumGoroutine")=false) (hS:RG P f):Ql P ρ B f Ow:=by
 intro args h n Φ hs φ w xs g hr
 unfold Ow at hs
 obtain ⟨v,l,rfl,q1⟩:=Br (R.sat_good hs)
 rw [q1] at hs
 obtain ⟨q,l,rfl,q2⟩:=Br (R.sat_good hs)
 rw [q2] at hs
 obtain ⟨rfl,q3⟩:=Cj (R.sat_good hs)
 rw [q3] at hs
 obtain ⟨k,m,rfl,q4⟩:=Cz (R.sat_good hs)
 rw [q4] at hs
 obtain ⟨hk,q5⟩:=Ak (R.sat_good hs)
 rw [q5] at hs
 obtain rfl:=B3.1 hk
 obtain ⟨hm1,q6⟩:=Ak (R.sat_good hs)
 rw [q6] at hs
 obtain ⟨hm2,q7⟩:=Ak (R.sat_good hs)
 rw [q7] at hs
 have hm1:=Ao.1 hm1; have hm2:=Ao.1 hm2
 rcases MS v (fun m' j=>br (Nat.beq m' m) (.rv (.int .i64 j) h n) (O7 m m' j h n)) (J7 v fun j lo hi=>br (Be j .i64) (br (Nat.beq lo hi) (br (Nat.ble (Nat.succ lo) 9223372036854775808) (Aj (Nat.mod lo m) fun i=>.rv (.int .i64 i) h n) (Kk m fun i=>.rv (.int .i64 i) h n)) (Kk m fun i=>.rv (.int .i64 i) h n)) (.fail "")) with ⟨m',j,rfl,q8⟩ | q8
 ·rw [q8] at hs
  cases hmm:Nat.beq m' m with
  | true =>
   rw [hmm] at hs
   have hs:(R.rv (.int .i64 j) h n).sat Φ:=hs
   have hmm:=Nat.eq_of_beq_eq_true hmm
   subst hmm
   obtain ⟨X,ys,hX,r0,hr⟩:=Au.1 hr
   obtain ⟨Y,ys,rfl,r1,hr⟩:=Au.1 hr
   obtain rfl:=AH.1 hr
   simp only [AL] at r0
   obtain ⟨z,rfl,z1,z2,z3,_⟩:=r0
   have z3:z.natAbs % (m' % 18446744073709551616)=j:=by
    rcases z3 with ⟨_,z3⟩ | ⟨z3,_⟩
    ·exact z3
    ·omega
   rw [Nat.mod_eq_of_lt (by omega:m'<18446744073709551616)] at z3
   obtain ⟨_,rfl⟩:=BM r1
   have hxs:xs = #[.int .i64 z,.int .i64 (BW .i64 m')]:=by cases xs; simp at hX; rw [hX]
   subst hxs
   have edm:BW .i64 m'=(m':Int):=Az (by simp only [Hk]; omega)
   rw [edm]
   obtain ⟨c,hc⟩:=Option.isSome_iff_exists.1 hb
   refine BP hf hc hn ((hS z _ w z1 z2 (by omega) (by omega)).mono fun e w' ⟨he,hw⟩=>⟨_,he,?_⟩)
   subst hw
   rw [Int.toNat_natCast,z3]
   have hj:j<m':=by rw [←z3]; exact Nat.mod_lt _ (by omega)
   refine ⟨.int .i64 j,h,n,φ,hs,Fr.refl h φ n _,g,?_⟩
   simp only [AL]
   exact ⟨by simp only [Mk]; omega,congrArg (Value.int .i64) (Az (k:=.i64) (by simp only [Hk]; omega)).symm⟩
  | false =>
   rw [hmm] at hs
   have hs9:(O7 m m' j h n).sat Φ:=hs
   unfold O7 at hs9
   obtain ⟨hm9,q9⟩:=Ak (R.sat_good hs9)
   rw [q9,Ai,Ai] at hs9
   have hm9:m'=36893488147419103232+m:=Nat.eq_of_beq_eq_true hm9
   subst hm9
   obtain ⟨X,ys,hX,r0,hr⟩:=Au.1 hr
   obtain ⟨Y,ys,rfl,r1,hr⟩:=Au.1 hr
   obtain rfl:=AH.1 hr
   simp only [AL] at r0
   obtain ⟨z,rfl,z1,z2,z3,_⟩:=r0
   have z3:j % 18446744073709551616≤z.natAbs % m∧z.natAbs % m≤j / 18446744073709551616:=by
    rcases z3 with ⟨z3,_⟩ | ⟨_,z3⟩
    ·omega
    ·rwa [show (36893488147419103232+m) % 18446744073709551616=m by omega] at z3
   obtain ⟨_,rfl⟩:=BM r1
   have hxs:xs = #[.int .i64 z,.int .i64 (BW .i64 m)]:=by cases xs; simp at hX; rw [hX]
   subst hxs
   have edm:BW .i64 m=(m:Int):=Az (by simp only [Hk]; omega)
   rw [edm]
   obtain ⟨c,hc⟩:=Option.isSome_iff_exists.1 hb
   refine BP hf hc hn ((hS z _ w z1 z2 (by omega) (by omega)).mono fun e w' ⟨he,hw⟩=>⟨_,he,?_⟩)
   subst hw
   rw [Int.toNat_natCast]
   have hj:z.natAbs % m<m:=Nat.mod_lt _ (by omega)
   refine ⟨_,h,n,φ,hs9,Fr.refl h φ n _,g,?_⟩
   simp only [AL]
   exact ⟨z.natAbs % m,z3.1,z3.2,by simp only [Mk]; omega,congrArg (Value.int .i64) (Az (k:=.i64) (by simp only [Hk]; omega)).symm⟩
 rw [q8] at hs
 obtain ⟨j,lo,hi,q8,H⟩:=CH (R.sat_good hs)
 rw [q8] at hs
 obtain ⟨hj,q9⟩:=Ak (R.sat_good hs)
 rw [q9] at hs
 obtain rfl:=B3.1 hj
 obtain ⟨X,ys,hX,r0,hr⟩:=Au.1 hr
 obtain ⟨Y,ys,rfl,r1,hr⟩:=Au.1 hr
 obtain rfl:=AH.1 hr
 obtain ⟨r,h1,h2,h3,rfl⟩:=H ρ φ X r0
 obtain ⟨_,rfl⟩:=BM r1
 have hxs:xs = #[.int .i64 (BW .i64 r),.int .i64 (BW .i64 m)]:=by cases xs; simp at hX; rw [hX]
 subst hxs
 have hM:Mk .i64=18446744073709551616:=rfl
 have hH:Hk .i64=9223372036854775808:=rfl
 have edm:BW .i64 m=(m:Int):=Az (by omega)
 rw [edm]
 have hd : -9223372036854775808≤BW .i64 r∧BW .i64 r<9223372036854775808:=by
  by_cases hr:r<Hk .i64
  ·rw [Az hr]; omega
  ·rw [GC hr]; omega
 obtain ⟨c,hc⟩:=Option.isSome_iff_exists.1 hb
 have hlt:(BW .i64 r).natAbs % (m:Int).toNat<m:=by rw [Int.toNat_natCast]; exact Nat.mod_lt _ (by omega)
 have all:(∀ i,i<m->Φ (.rv (.int .i64 i) h n))->HR P f #[.int .i64 (BW .i64 r),.int .i64 (m:Int)] w fun x w'=>∃ v h1 n1 φ',Φ (.rv v h1 n1)∧Fr h h1 φ φ' n n1 w w'∧Gam ρ B h1 n1 φ' w'∧AL ρ φ' v x:=fun HΦ =>
  BP hf hc hn ((hS _ _ w hd.1 hd.2 (by omega) (by omega)).mono fun e w' ⟨he,hw⟩=>⟨_,he,by
   subst hw
   refine ⟨.int .i64 ((BW .i64 r).natAbs % (m:Int).toNat),h,n,φ,HΦ _ hlt,Fr.refl h φ n _,g,?_⟩
   simp only [AL]
   have h9:(BW .i64 r).natAbs % (m:Int).toNat<9223372036854775808:=by
    generalize (BW .i64 r).natAbs % (m:Int).toNat=q at hlt
    omega
   exact ⟨by rw [hM]; exact Nat.lt_trans h9 (by decide),congrArg (Value.int .i64) (Az (k:=.i64) (by rw [hH]; exact h9)).symm⟩⟩)
 have ways:(Kk m fun i=>R.rv (.int .i64 i) h n).sat Φ->HR P f #[.int .i64 (BW .i64 r),.int .i64 (m:Int)] w fun x w'=>∃ v h1 n1 φ',Φ (.rv v h1 n1)∧Fr h h1 φ φ' n n1 w w'∧Gam ρ B h1 n1 φ' w'∧AL ρ φ' v x:=fun hs=>all fun i hi=>Sy hs i hi
 cases e1:Nat.beq lo hi with
 | false=>rw [e1] at hs; exact ways hs
 | true =>
  rw [e1] at hs
  have e1:=Nat.eq_of_beq_eq_true e1
  have hs:(br (Nat.ble (Nat.succ lo) 9223372036854775808) (Aj (Nat.mod lo m) fun i=>.rv (.int .i64 i) h n) (Kk m fun i=>.rv (.int .i64 i) h n)).sat Φ:=hs
  cases e2:Nat.ble (Nat.succ lo) 9223372036854775808 with
  | false=>rw [e2] at hs; exact ways hs
  | true =>
   rw [e2,AD,Ai] at hs
   have e2:lo+1≤9223372036854775808:=Ao.1 e2
   have er:r=lo:=by omega
   subst er
   have hdr:BW .i64 r=(r:Int):=Az (by omega)
   rw [hdr]
   refine BP hf hc hn ((hS _ _ w (by omega) (by omega) (by omega) (by omega)).mono fun e w' ⟨he,hw⟩=>⟨_,he,?_⟩)
   subst hw
   refine ⟨.int .i64 (r % m),h,n,φ,hs,Fr.refl h φ n _,g,?_⟩
   simp only [AL]
   have:=Nat.mod_lt r (show m > 0 by omega)
   exact ⟨by omega,by rw [Az (by omega)]; simp⟩
end
abbrev iI (n:Nat):V:=.int .i64 n
abbrev iW (n:Nat):V:=.int .u32 n
abbrev iB (n:Nat):V:=.int .u8 n
abbrev iL (n:Nat):V:=.int .u64 n
abbrev nR (t:S) (h:Heap) (n:K4):R:=.ok .nrm t h n
abbrev rT (t:S) (h:Heap) (n:K4):R:=.ok .ret t h n
def o8 (i:Nat):O8:=@Nat.rec (fun _=>O8) .d0 (fun i _=>@Nat.rec (fun _=>O8) .d1 (fun i _=>@Nat.rec (fun _=>O8) .d2 (fun i _=>@Nat.rec (fun _=>O8) .d3 (fun i _=>@Nat.rec (fun _=>O8) .d4 (fun i _=>@Nat.rec (fun _=>O8) .d5 (fun i _=>@Nat.rec (fun _=>O8) .d6 (fun _ _=>.d7) i) i) i) i) i) i) i
def o4 (i:Nat):O4:=@Nat.rec (fun _=>O4) .d0 (fun i _=>@Nat.rec (fun _=>O4) .d1 (fun i _=>@Nat.rec (fun _=>O4) .d2 (fun _ _=>.d3) i) i) i
def mS (l:List Nat):SM:=@List.rec Nat (fun _=>Nat->SM) (fun _=>[]) (fun p _ ih i=>(⟨D.ofN (Nat.div p 16),D.ofN (Nat.mod p 16)⟩,⟨o8 (Nat.div i 4),o4 (Nat.mod i 4)⟩)::ih (Nat.succ i)) l 0
theorem Oz {α:Type} {p:α->Bool} {l:List α} (k:Nat) (h1:((l.take k).all fun x=>!p x)=true) (h2:((l.drop k).all fun x=>!p x)=true):(l.all fun x=>!p x)=true:=by
 rw [←List.take_append_drop k l,List.all_append,h1,h2]; rfl
theorem Vr {P:Program} (h:(P.funcs.toList.all fun fn=>!fn.goes)=true) (func:String):P.goesAt .entering func=false:=by
 have key:∀ g:Nat,(P.funcs[g]?).any Func.goes=false:=fun g=>by
  cases hx:P.funcs[g]? with
  | none=>rfl
  | some fn =>
   have hm:fn∈P.funcs.toList:=by
    rw [←Array.getElem?_toList] at hx
    exact List.mem_of_getElem? hx
   have:=List.all_eq_true.1 h fn hm
   simpa using this
 have hp:P.funcs.any Func.goes=false:=by
  rw [←Array.any_toList,Bool.eq_false_iff]
  intro hc
  obtain ⟨fn,hm,hg⟩:=List.any_eq_true.1 hc
  have:=List.all_eq_true.1 h fn hm
  rw [hg] at this; cases this
 have hgo:∀ f,P.goes f=false:=fun f=>by
  unfold Program.goes
  rw [hp,Bool.and_false,Bool.or_false,Bool.eq_false_iff]
  intro hc
  simp only [key] at hc
  simp at hc
 unfold Program.goesAt Program.goesFrom
 cases P.funcNamed func with
 | none=>rfl
 | some f=>simp [hgo f]
end Go.Ev

namespace Go.Ev
set_option linter.unusedVariables false
abbrev CJ:=Nat->Option (Array Value×TypeId×(Nat×Nat))
def L2 (P:Program) (fs:List Nat) (gl:CJ):Env:={ I6 P fs with gl:=gl }
theorem YC {P:Program} {fs:List Nat} {gl:CJ}:Bp (L2 P fs gl):=fun _=>rfl
section
variable {P:Program} {ρ:Env} {B:Nat}
theorem Cd.gl {fs:List Nat} {gl:CJ} {f:FuncId} {e:Ent} (h:Cd P (I6 P fs) f e):Cd P (L2 P fs gl) f e:=h
theorem GI.mkG {fs:List Nat} {gl:CJ} {T:FC} (h:∀ f e,DP (B2 f) T=some e->MI P (L2 P fs gl) B f e) (ha:∀ f∈fs,∃ e,DP (B2 f) T=some e∧Cd P (L2 P fs gl) f e):GI P (L2 P fs gl) B T:=by
 refine ⟨h,fun f A hA=>?_⟩
 have hA:@Bool.rec (fun _=>Option ApC) none (M6 P f) (fs.contains f)=some A:=hA
 cases hc:fs.contains f with
 | false=>rw [hc] at hA; cases hA
 | true=>exact ha f (List.contains_iff_mem.1 hc)
def QA (P:Program) (gl:CJ) (name:String) (k:IntKind) (zs:List Int):Prop:=∃ g e fr,P.globalNamed name=some g∧gl g=some ((zs.map fun z=>Value.int k z).toArray,e,fr)
theorem QA.is {gl:CJ} {name:String} {k:IntKind} {zs:List Int} {h:Heap} {n:K4} {φ:Ba} {w:World} (t:QA P gl name k zs) (hgl:ρ.gl=gl) (g:Gam ρ B h n φ w):Lib.TabIs P w name k zs:=by
 obtain ⟨b,e,fr,h1,h2⟩:=t
 obtain ⟨_,h3⟩:=g.glob b _ e fr (by rw [hgl]; exact h2)
 unfold Lib.TabIs World.var?
 rw [h1,Option.bind_some,h3]
def V2 (w:World) (l:List Nat):CJ:=fun b=>if b∈l then (match w.heap[b]? with | some (.cells c e fr)=>some (c,e,fr) | _=>none) else none
theorem VU {P:Program} {fs:List Nat} {w:World} {l:List Nat}:VC (L2 P fs (V2 w l)) w:=fun b c e fr h=>by
 have h:V2 w l b=some (c,e,fr):=h
 unfold V2 at h
 split at h
 ·split at h
  ·rename_i c' e' fr' hw
   cases h
   refine ⟨?_,hw⟩
   rcases Nat.lt_or_ge b w.heap.size with hb | hb
   ·exact hb
   ·rw [Array.getElem?_eq_none hb] at hw; cases hw
  ·cases h
 ·cases h
theorem QA.of {w:World} {l:List Nat} {g:Nat} {name:String} {k:IntKind} {zs:List Int} (hg:P.globalNamed name=some g) (hl:g∈l) (h:Lib.TabIs P w name k zs):QA P (V2 w l) name k zs:=by
 unfold Lib.TabIs World.var? at h
 rw [hg,Option.bind_some] at h
 split at h
 ·rename_i c e fr hw
  cases h
  refine ⟨g,e,fr,hg,?_⟩
  unfold V2
  rw [if_pos hl,hw]
 ·cases h
def WX (m:Nat):Nat->Nat:=@Nat.rec (fun _=>Nat->Nat) (fun _=>1) (fun _ ih u=>br (Nat.ble (Nat.succ u) 10) 1 (Nat.succ (ih (Nat.div u 10)))) m
theorem QE:∀ (m u:Nat),u<10 ^ (m+1)->WX m u=Lib.nDigits u
 | 0,u,h=>by rw [Lib.nDigits_small (by simpa using h)]; rfl
 | m+1,u,h=>by
  have e:WX (m+1) u=br (Nat.ble (Nat.succ u) 10) 1 (Nat.succ (WX m (u / 10))):=rfl
  rw [e]
  by_cases hu:u<10
  ·rw [Ao.2 (by omega),AD,Lib.nDigits_small hu]
  ·rw [Bh (by omega),AR,Lib.nDigits_big hu,QE m (u / 10) (by rw [Nat.pow_succ] at h; omega)]
theorem QL {u:Nat} (h:u<18446744073709551616):Lib.nDigits u≤20:=by
 rw [←QE 19 u (by omega)]
 have:∀ (m u:Nat),WX m u≤m+1:=by
  intro m
  induction m with
  | zero=>intro u; exact Nat.le_refl _
  | succ m ih =>
   intro u
   have e:WX (m+1) u=br (Nat.ble (Nat.succ u) 10) 1 (Nat.succ (WX m (u / 10))):=rfl
   rw [e]
   cases Nat.ble (Nat.succ u) 10 with
   | true=>show 1≤_; omega
   | false=>have:=ih (u / 10); show Nat.succ _≤_; omega
 exact this 19 u
def IZ:Gr:=fun args h n =>
 Da args fun x l=>GM l (E6 x fun k r=>br (Be k .u64) (br (Nat.ble 1 r) (Aj (WX 19 r) fun i=>.rv (.int .i64 i) h n) (.fail "")) (.fail ""))
def PI (P:Program) (f:FuncId):Prop:=∀ (u:Nat),1≤u->u<18446744073709551616->∀ w:World,Lib.TabIs P w "internal/strconv.uint64pow10" .u64 Lib.pow10Tab->Calls P f #[.int .u64 u] w fun e w'=>e = .returned (.int .i64 (Lib.nDigits u))∧w'=w
theorem NH {f:FuncId} {fn:Func} {gl:CJ} (hf:P.funcs[f]? = some fn) (hb:fn.body.isSome=true) (hn:(fn.name == "runtime.NumGoroutine")=false) (hS:PI P f) (hgl:ρ.gl=gl) (ht:QA P gl "internal/strconv.uint64pow10" .u64 Lib.pow10Tab):EE P ρ B f IZ:=by
 intro args h n v h1 n1 hx φ w xs g hr
 have hg:(IZ args h n).good:=by rw [hx]; trivial
 unfold IZ at hx hg
 obtain ⟨x,l,rfl,q1⟩:=Br hg
 rw [q1] at hx hg
 obtain ⟨rfl,q2⟩:=Cj hg
 rw [q2] at hx
 obtain ⟨k,r,rfl,hx⟩:=Q9 hx
 obtain ⟨hk,hx⟩:=C3 hx
 obtain rfl:=B3.1 hk
 obtain ⟨h1',hx⟩:=C3 hx
 have h1':=Ao.1 h1'
 rw [Ai] at hx
 cases hx
 obtain ⟨X,ys,hX,r0,hr⟩:=Au.1 hr
 obtain rfl:=AH.1 hr
 obtain ⟨hlt,rfl⟩:=BM r0
 have hlt:r<18446744073709551616:=hlt
 have hxs:xs = #[.int .u64 (BW .u64 r)]:=by cases xs; simp at hX; rw [hX]
 subst hxs
 rw [show BW .u64 r=(r:Int) from Az (by simp only [Hk]; exact hlt)]
 obtain ⟨c,hc⟩:=Option.isSome_iff_exists.1 hb
 refine BP hf hc hn ((hS r h1' hlt w (ht.is hgl g)).mono fun e w' ⟨he,hw⟩=>⟨_,he,?_⟩)
 subst hw
 refine ⟨φ,Fr.refl h φ n _,g,?_⟩
 rw [QE 19 r (by omega)]
 have:=QL hlt
 simp only [AL]
 generalize Lib.nDigits r=d at this
 exact ⟨by simp only [Mk]; omega,congrArg (Value.int .i64) (Az (k:=.i64) (by simp only [Hk]; omega)).symm⟩
end
theorem JU {P:Program} {w:World}:∀ {l:List (String×DataW Unit)} {ps:List MemPlace},DataW.LaidVars P w l ps->∀ {name:String} {d:DataW Unit},(name,d)∈l →
  ∃ g t cs fuel p,P.globalNamed name=some g∧(P.globals[g]?).map (·.type)=some t∧w.var? P name=some cs∧DataW.trod (fun _=>()) P w 0 (fun _=>true) false fuel t cs.toList=some (d,p)
 | [],_,_,_,_,hm=>by cases hm
 | (n,d)::r,ps,h,name,d',hm=>by
  obtain ⟨g,t,cs,fuel,p,q,h1,h2,h3,h4,h5,_⟩:=h
  rcases List.mem_cons.1 hm with e | e
  ·cases e; exact ⟨g,t,cs,fuel,p,h1,h2,h3,h4⟩
  ·exact JU h5 e
theorem Ou {P:Program} {W:World} {name:String} {k:IntKind} {zs:List Int} {l:List (String×DataW Unit)} {g:Nat} {t e:TypeId} {n:Nat}
  (hg:P.globalNamed name=some g) (hty:(P.globals[g]?).map (·.type)=some t) (ht:P.underlying t=some (.array n e)) (he:P.underlying e=some (.int k)) (hce:P.cellsOf e=1) (hct:P.cellsOf t=n)
  (hm:(name,Lib.tabData k zs)∈l) (h:laidMet P l W):Lib.TabIs P W name k zs:=by
 obtain ⟨ps,hv,_⟩:=h
 obtain ⟨g',t',cs,fuel,p,hg',ht',hvar,hd⟩:=JU hv hm
 obtain rfl:=Option.some.inj (hg.symm.trans hg')
 obtain rfl:=Option.some.inj (hty.symm.trans ht')
 unfold Lib.TabIs
 rw [hvar,←Lib.cells_of_tab ht he hce hct hd]
end Go.Ev

namespace Go.Ev
set_option linter.unusedVariables false
open Go.RowKit
def U7 (x y:V):Bool :=
 @V.rec (fun _=>Bool) (fun _=>Unit) (fun k r=>@V.rec (fun _=>Bool) (fun _=>Unit) (fun j b=>br (Be k j) (Nat.beq r b) false) (fun _=>false) (fun _ _=>false) (fun _ _ _ _ _ _=>false) (fun _ _=>false) (fun _ _=>false) (fun _=>false) (fun _=>false) (fun _ _ _=>false) (fun _ _=>false) (fun _=>false) () (fun _ _ _ _=>()) y)
  (fun p=>@V.rec (fun _=>Bool) (fun _=>Unit) (fun _ _=>false) (fun q=>br p q (br q false true)) (fun _ _=>false) (fun _ _ _ _ _ _=>false) (fun _ _=>false) (fun _ _=>false) (fun _=>false) (fun _=>false) (fun _ _ _=>false) (fun _ _=>false) (fun _=>false) () (fun _ _ _ _=>()) y)
  (fun _ _=>false) (fun _ _ _ _ _ _=>false)
  (fun n c=>@V.rec (fun _=>Bool) (fun _=>Unit) (fun _ _=>false) (fun _=>false) (fun _ _=>false) (fun _ _ _ _ _ _=>false) (fun m d=>br (Nat.beq n m) (Nat.beq c d) false) (fun _ _=>false) (fun _=>false) (fun _=>false) (fun _ _ _=>false) (fun _ _=>false) (fun _=>false) () (fun _ _ _ _=>()) y)
  (fun _ _=>false) (fun _=>false) (fun _=>false) (fun _ _ _=>false) (fun _ _=>false) (fun _=>false) () (fun _ _ _ _=>()) x
def PG (v:V):Prop:=∀ (ρ:Env) (φ φ':Ba) x,AL ρ φ v x->AL ρ φ' v x
theorem S2 {c x:Bool} (h:br c x false=true):c=true∧x=true:=by cases c; cases h; exact ⟨rfl,h⟩
theorem S8 {x y:V} (h:U7 x y=true):x=y∧PG x:=by
 cases x with
 | int k r=>cases y with
  | int j b =>
   obtain ⟨h1,h2⟩:=S2 (show br (Be k j) (Nat.beq r b) false=true from h)
   rw [B3.1 h1,Nat.eq_of_beq_eq_true h2]
   exact ⟨rfl,fun ρ φ φ' x hx=>by simpa only [AL] using hx⟩
  | _=>cases h
 | bool p=>cases y with
  | bool q =>
   have h:br p q (br q false true)=true:=h
   have:p=q:=by cases p <;> cases q <;> first | rfl | cases h
   rw [this]
   exact ⟨rfl,fun ρ φ φ' x hx=>by simpa only [AL] using hx⟩
  | _=>cases h
 | str n c=>cases y with
  | str m d =>
   obtain ⟨h1,h2⟩:=S2 (show br (Nat.beq n m) (Nat.beq c d) false=true from h)
   rw [Nat.eq_of_beq_eq_true h1,Nat.eq_of_beq_eq_true h2]
   exact ⟨rfl,fun ρ φ φ' x hx=>by simpa only [AL] using hx⟩
  | _=>cases h
 | _=>cases h
def P3 (l:List V):List V->Bool :=
 @List.rec V (fun _=>List V->Bool) (fun r=>@List.rec V (fun _=>Bool) true (fun _ _ _=>false) r) (fun x _ ih r=>@List.rec V (fun _=>Bool) false (fun y r _=>br (U7 x y) (ih r) false) r) l
theorem OG:∀ {l r:List V},P3 l r=true->l=r ∧ ∀ x∈l,PG x
 | [],[],_=>⟨rfl,fun x hx=>by cases hx⟩
 | [],_::_,h=>by cases h
 | _::_,[],h=>by cases h
 | x::l,y::r,h=>by
  obtain ⟨h1,h2⟩:=S2 (show br (U7 x y) (P3 l r) false=true from h)
  obtain ⟨rfl,p⟩:=S8 h1
  obtain ⟨rfl,q⟩:=OG h2
  exact ⟨rfl,fun z hz=>by
   rcases List.mem_cons.1 hz with rfl | hz
   ·exact p
   ·exact q z hz⟩
def ZQ (v:V) (r:R):Bool:=@R.rec (fun _=>Bool) (fun _ _ _ _=>false) (fun u _ _=>U7 u v) (fun _=>false) (fun _ _ _ _=>false) r
theorem WB {v:V} {r:R} (h:ZQ v r=true):(∃ h1 n1,r = .rv v h1 n1)∧PG v:=by
 cases r with
 | rv u h1 n1=>obtain ⟨rfl,p⟩:=S8 (show U7 u v=true from h); exact ⟨⟨h1,n1,rfl⟩,p⟩
 | _=>cases h
abbrev Pk:=List (List V×V)
def Kg (l:Pk):Gr :=
 @List.rec (List V×V) (fun _=>Gr) (C4 "") (fun e _ ih args h n=>@Prod.rec (List V) V (fun _=>R) (fun a v=>br (P3 args a) (.rv v h n) (ih args h n)) e) l
theorem PT:∀ {l:Pk} {args:List V} {h:Heap} {n:K4} {v:V} {h1:Heap} {n1:K4},Kg l args h n = .rv v h1 n1->h1=h∧n1=n∧(args,v)∈l ∧ ∀ x∈args,PG x
 | [],args,h,n,v,h1,n1,hx=>by cases hx
 | (a,u)::l,args,h,n,v,h1,n1,hx=>by
  have e0:Kg ((a,u)::l) args h n=br (P3 args a) (R.rv u h n) (Kg l args h n):=rfl
  rw [e0] at hx
  clear e0
  cases hb:P3 args a with
  | true =>
   rw [hb,AD] at hx
   obtain ⟨e1,p⟩:=OG hb
   cases hx
   exact ⟨rfl,rfl,by rw [e1]; exact List.mem_cons_self ..,p⟩
  | false =>
   rw [hb] at hx
   obtain ⟨h1,h2,h3,h4⟩:=PT (show Kg l args h n=_ from hx)
   exact ⟨h1,h2,List.mem_cons_of_mem _ h3,h4⟩
def Is (T:FC) (m:Nat) (f:FuncId) (l:Pk):Prop:=∀ a v,(a,v)∈l->ZQ v (Bw T m (B2 f) a AS KP)=true
theorem Lh {T:FC} {m:Nat} {f:FuncId}:Is T m f []:=fun a v h=>by cases h
theorem FT {T:FC} {m:Nat} {f:FuncId} {a:List V} {v:V} {l:Pk} (h:ZQ v (Bw T m (B2 f) a AS KP)=true) (k:Is T m f l):Is T m f ((a,v)::l):=fun a' v' h'=>by
 rcases List.mem_cons.1 h' with e | e
 ·cases e; exact h
 ·exact k a' v' e
section
variable {P:Program} {ρ:Env} {B:Nat}
theorem Gam.below {h:Heap} {n:K4} {φ:Ba} {w w':World} (g:Gam ρ B h n φ w) (b:Below w.heap.size w w'):Gam ρ B h n φ w'∧Fr h h φ φ n n w w':=by
 obtain ⟨b1,b2,b3,b4,b5⟩:=b
 refine ⟨⟨Nat.le_trans g.base b4,g.dom,fun p b s t hp=>⟨(g.blk p b s t hp).1,Nat.lt_of_lt_of_le (g.blk p b s t hp).2 b4⟩,fun p o b s t ho hp=>Ci (b5 b (g.blk p b s t hp).2) (g.obj p o b s t ho hp),g.sep,g.sup,
  fun b c e fr hb=>⟨(g.glob b c e fr hb).1,by rw [b5 b (Nat.lt_of_lt_of_le (g.glob b c e fr hb).1 g.base)]; exact (g.glob b c e fr hb).2⟩⟩,
  ⟨Ba.le_refl φ,fun _ _ h=>.inl h,Nat.le_refl _,b1,b2,b3,b4,fun b hb _=>b5 b hb,fun _ _ _ _ h=>.inl h,fun _ _ h=>h⟩⟩
theorem LE {φ φ':Ba}:∀ {l:List V} {xs:List Value},(∀ x∈l,PG x)->BC ρ φ l xs->BC ρ φ' l xs
 | [],xs,_,h=>by rw [AH] at h ⊢; exact h
 | v::l,xs,p,h=>by
  rw [Au] at h ⊢
  obtain ⟨y,ys,e,h1,h2⟩:=h
  exact ⟨y,ys,e,p v (List.mem_cons_self ..) ρ φ φ' y h1,LE (fun x hx=>p x (List.mem_cons_of_mem _ hx)) h2⟩
theorem Oj (hρ:Bp ρ) (hm:P.follows .mixedOrders=true) {T:FC} (hT:∀ B,GI P ρ B T) {m:Nat} {f:FuncId} {l:Pk} (hl:Is T m f l):EE P ρ B f (Kg l):=by
 intro args h n v h1 n1 hx φ w xs g hr
 obtain ⟨rfl,rfl,hmem,hp⟩:=PT hx
 obtain ⟨⟨h2,n2,hc⟩,hv⟩:=WB (hl _ _ hmem)
 intro o a K Q hK
 refine V1 (B:=w.heap.size) hρ hm (hT _) m f args AS KP _ h2 n2 hc (fun _=>none) w xs (Mv w KP fun b c e fr hb=>⟨Nat.lt_of_lt_of_le (g.glob b c e fr hb).1 g.base,(g.glob b c e fr hb).2⟩) (LE hp hr) o a K Q fun x w' ⟨φ',f1,_,hr1⟩=>hK x w' ?_
 obtain ⟨g2,f2⟩:=g.below (JS f1)
 exact ⟨φ,f2,g2,hv ρ φ' φ x hr1⟩
end
theorem WH {a:Int} (h:(Lit.int .i64 a).wf=true) : -9223372036854775808≤a∧a<9223372036854775808:=by
 simp [Lit.wf,IntKind.min,IntKind.max,IntKind.signed,IntKind.bits] at h
 omega
theorem H3 {ρ:Env} {φ:Ba} {a:Int} {m lo hi:Nat} (hm:m<18446744073709551616) (hlo:lo<18446744073709551616) (h : -9223372036854775808≤a) (h2:a<9223372036854775808) (h3:lo≤a.natAbs % m) (h4:a.natAbs % m≤hi) :
  AL ρ φ (.oth (.rs (36893488147419103232+m) (hi*18446744073709551616+lo))) (.int .i64 a):=by
 simp only [AL]
 have e:(36893488147419103232+m) % 18446744073709551616=m:=by omega
 refine ⟨a,rfl,h,h2,.inr ⟨by omega,?_,?_⟩,fun _ h=>absurd h (by omega)⟩
 ·rw [e]; omega
 ·rw [e]; omega
def Kw (r:R):Bool:=@R.rec (fun _=>Bool) (fun _ _ _ _=>false) (fun v _ _=>XR v) (fun _=>false) (fun _ _ x y=>br x y false) r
theorem LX:∀ {r:R},Kw r=true->r.sat (fun x=>∃ h n,x = .rv (.bool true) h n)
 | .ok _ _ _ _,h=>by cases h
 | .fail _,h=>by cases h
 | .rv v h n,hx=>by
  cases v with
  | bool b=>have:b=true:=hx; subst this; exact ⟨h,n,rfl⟩
  | _=>cases hx
 | .both a b,hx=>by
  obtain ⟨h1,h2⟩:=S2 (show br (Kw a) (Kw b) false=true from hx)
  exact ⟨LX h1,LX h2⟩
theorem DK {P:Program} {ρ:Env} (hρ:Bp ρ) (hm:P.follows .mixedOrders=true) {T:FC} (hT:∀ B,GI P ρ B T) {m:Nat} {f:FuncId} {fn:Func} {args:List V}
  (hf:P.funcs[f]? = some fn) (hb:fn.body.isSome=true) (hn:(fn.name == "runtime.NumGoroutine")=false) (hx:Kw (Bw T m (B2 f) args AS KP)=true) {xs:Array Value} (hr:BC ρ (fun _=>none) args xs.toList) (w:World) (hgl:VC ρ w:=by intro b c e fr h; have h:(none:Option (Array Value×TypeId×(Nat×Nat)))=some (c,e,fr):=h; cases h) :
  Calls P f xs w fun e w'=>e = .returned (.bool true)∧Below w.heap.size w w':=by
 obtain ⟨c,hc⟩:=Option.isSome_iff_exists.1 hb
 have:=HX (R:=fun x w'=>x = .bool true∧Below w.heap.size w w') hf hc (by simpa using hn) (fun o a K Q hK =>
  (HF (B:=w.heap.size) hρ hm (hT _) m).1 f args AS KP _ (LX hx) (fun _=>none) w xs (Mv w KP hgl) hr o a K Q fun x w' ⟨v,h1,n1,φ',⟨h2,n2,e⟩,f1,_,r1⟩=>hK x w' ⟨by cases e; simpa only [AL] using r1,JS f1⟩)
 refine this.mono fun e w' he=>?_
 cases e with
 | returned v=>exact ⟨by rw [he.1],he.2⟩
 | _=>exact he.elim
end Go.Ev

namespace Go.Ev
set_option linter.unusedVariables false
open Go.RowKit
theorem Bc {r:R} {v:V} {h:Heap} {n:K4} (e:r = .rv v h n):r.good:=by rw [e]; trivial
theorem V6 {z:Cs} {κ:List V->R} {r:R} (h:E0 z κ=r):∃ zs,κ zs=r∧zs.length=z.len ∧ ∀ i,zs[i]? = z.at i:=by
 obtain ⟨zs,e,a,b⟩:=Fa z κ
 exact ⟨zs,by rw [←e]; exact h,a,b⟩
section
def vS (s:List UInt8):V:=.str s.length (AV s)
theorem W8 {x:V} {s:String} {κ:K4->Nat->Nat->Nat->Bool->Nat->R} {v:V} {h:Heap} {n:K4} (hx:CK x (.fail s) κ = .rv v h n):∃ p off len cap ex esz,x = .sl p off len cap ex esz∧κ p off len cap ex esz = .rv v h n:=by
 rcases C8 (v:=x) (κn:=.fail s) (κ:=κ) (Bc hx) with ⟨_,e⟩ | ⟨p,off,len,cap,ex,esz,rfl,e⟩
 ·rw [e] at hx; cases hx
 ·exact ⟨p,off,len,cap,ex,esz,rfl,e ▸ hx⟩
theorem ID {x:V} {s:String} {κ:K4->R} {v:V} {h:Heap} {n:K4} (hx:D6 x (.fail s) κ = .rv v h n):∃ p,x = .map p∧κ p = .rv v h n:=by
 rcases Dg (v:=x) (κn:=.fail s) (κ:=κ) (Bc hx) with ⟨_,e⟩ | ⟨p,rfl,e⟩
 ·rw [e] at hx; cases hx
 ·exact ⟨p,rfl,e ▸ hx⟩
end
section
variable {P:Program} {ρ:Env} {B:Nat}
theorem RN {φ:Ba}:∀ {l:List V} {f:Nat->Option Value},(∀ x∈l,∃ n d,x = .str n d)->(∀ i v,l[i]? = some v->∃ x,f i=some x∧AL ρ φ v x) →
  ∃ ss:List ByteArray,l=ss.map (fun s=>vS s.data.toList) ∧ ∀ (i:Nat) s,ss[i]? = some s->f i=some (.string s)
 | [],f,_,_=>⟨[],rfl,fun i s h=>by simp at h⟩
 | x::l,f,h1,h2=>by
  obtain ⟨ss,e,hs⟩:=RN (l:=l) (f:=fun i=>f (i+1)) (fun y hy=>h1 y (List.mem_cons_of_mem _ hy)) (fun i v hv=>h2 (i+1) v (by simpa using hv))
  obtain ⟨n,d,rfl⟩:=h1 x (List.mem_cons_self ..)
  obtain ⟨y,hy,hr⟩:=h2 0 _ rfl
  obtain ⟨s,rfl,hsz,hc⟩:=(by simpa only [AL] using hr:∃ s:ByteArray,y = .string s∧s.size=n∧AV s.data.toList=d)
  refine ⟨s::ss,?_,fun i u hu=>?_⟩
  ·rw [List.map_cons,←e]
   have:vS s.data.toList = .str n d:=by
    unfold vS
    rw [hc,←hsz]; rfl
   rw [this]
  ·cases i with
   | zero=>simp at hu; subst hu; exact hy
   | succ i=>exact hs i u (by simpa using hu)
end
end Go.Ev

namespace Go.Ev
set_option linter.unusedVariables false
open Go.RowKit
open Go.Proofs (encStr)
section
def Xg (m:Nat):Nat->Nat->Nat->Bool :=
 @Nat.rec (fun _=>Nat->Nat->Nat->Bool) (fun _ _ _=>true)
  (fun _ ih c n d=>br (Nat.beq n 0) false (Aj (lo c 1) fun x=>Aj (lo d 1) fun y=>br (Nat.beq x y) (Aj (sh c 1) fun c=>Aj (Nat.pred n) fun n=>Aj (sh d 1) fun d=>ih c n d) (Nat.ble (Nat.succ x) y))) m
theorem R6 (x:UInt8) (a:List UInt8):lo (AV (x::a)) 1=x.toNat:=by
 have:=x.toNat_lt
 rw [DH]; simp only [AV]; omega
theorem RV (x:UInt8) (a:List UInt8):sh (AV (x::a)) 1=AV a:=by
 have:=x.toNat_lt
 rw [EJ]; simp only [AV]; omega
theorem TH:∀ a b:List UInt8,Xg a.length (AV a) b.length (AV b)=decide (a≤b)
 | [],b=>by
  show true=_
  simp
 | x::a,[]=>by
  show false=_
  simp
 | x::a,y::b=>by
  have e:Xg (x::a).length (AV (x::a)) (y::b).length (AV (y::b))=br (Nat.beq x.toNat y.toNat) (Xg a.length (AV a) b.length (AV b)) (Nat.ble (Nat.succ x.toNat) y.toNat):=by
   have:Xg (x::a).length (AV (x::a)) (y::b).length (AV (y::b))=br (Nat.beq (y::b).length 0) false (Aj (lo (AV (x::a)) 1) fun p=>Aj (lo (AV (y::b)) 1) fun q=>br (Nat.beq p q) (Aj (sh (AV (x::a)) 1) fun c=>Aj (Nat.pred (y::b).length) fun n=>Aj (sh (AV (y::b)) 1) fun d=>Xg a.length c n d) (Nat.ble (Nat.succ p) q)):=rfl
   rw [this,R6,R6,RV,RV]
   simp only [Ai]
   rfl
  rw [e,TH a b]
  by_cases h:x=y
  ·subst h
   rw [Nat.beq_refl,AD]
   refine decide_eq_decide.2 ⟨fun h=>List.cons_le_cons_iff.2 (.inr ⟨rfl,h⟩),fun h=>?_⟩
   rcases List.cons_le_cons_iff.1 h with h | ⟨_,h⟩
   ·exact absurd h (by rw [UInt8.lt_iff_toNat_lt]; omega)
   ·exact h
  ·have h1:Nat.beq x.toNat y.toNat=false:=by
    cases h2:Nat.beq x.toNat y.toNat with
    | false=>rfl
    | true=>exact absurd (UInt8.toNat_inj.1 (Nat.eq_of_beq_eq_true h2)) h
   rw [h1,AR]
   have h3:(x::a≤y::b) ↔ x<y:=by
    rw [List.cons_le_cons_iff]
    constructor
    ·rintro (h' | ⟨h',_⟩)
     ·exact h'
     ·exact absurd h' h
    ·exact fun h'=>.inl h'
   rw [Gn]
   exact decide_eq_decide.2 (by rw [h3,UInt8.lt_iff_toNat_lt]; exact Iff.rfl)
def UH (x:V) (l:List V):(List V->R)->R :=
 @List.rec V (fun _=>(List V->R)->R) (fun κ=>κ [x]) (fun y ys ih κ=>Bd x fun m c=>Bd y fun n d=>br (Xg m c n d) (κ (x::y::ys)) (ih fun zs=>κ (y::zs))) l
def L8 (l:List V):(List V->R)->R :=
 @List.rec V (fun _=>(List V->R)->R) (fun κ=>κ []) (fun x _ ih κ=>Bd x fun _ _=>ih fun zs=>UH x zs κ) l
def NS (x:List UInt8):List (List UInt8)->List (List UInt8)
 | []=>[x]
 | y::ys=>if x≤y then x::y::ys else y::NS x ys
def E7:List (List UInt8)->List (List UInt8)
 | []=>[]
 | x::l=>NS x (E7 l)
theorem RM (x:List UInt8):∀ (l:List (List UInt8)) (κ:List V->R),UH (vS x) (l.map vS) κ=κ ((NS x l).map vS)
 | [],κ=>rfl
 | y::ys,κ=>by
  show br (Xg x.length (AV x) y.length (AV y)) (κ (vS x::vS y::ys.map vS)) (UH (vS x) (ys.map vS) fun zs=>κ (vS y::zs))=_
  rw [TH,RM x ys]
  show _=κ ((if x≤y then x::y::ys else y::NS x ys).map vS)
  by_cases h:x≤y
  ·rw [if_pos h,decide_eq_true h]; rfl
  ·rw [if_neg h,decide_eq_false h]; rfl
theorem IN:∀ (l:List (List UInt8)) (κ:List V->R),L8 (l.map vS) κ=κ ((E7 l).map vS)
 | [],κ=>rfl
 | x::l,κ=>by
  show L8 (l.map vS) (fun zs=>UH (vS x) zs κ)=_
  rw [IN l,RM]; rfl
theorem JB (x:List UInt8):∀ l,(NS x l).Perm (x::l)
 | []=>List.Perm.refl _
 | y::ys=>by
  unfold NS
  split
  ·exact List.Perm.refl _
  ·exact ((JB x ys).cons y).trans (List.Perm.swap x y ys)
theorem DE:∀ l,(E7 l).Perm l
 | []=>List.Perm.refl _
 | x::l=>(JB x _).trans ((DE l).cons x)
theorem Ka (x:List UInt8):∀ l:List (List UInt8),l.Pairwise (· ≤ ·)->(NS x l).Pairwise (· ≤ ·)
 | [],_=>by simp [NS]
 | y::ys,h=>by
  obtain ⟨h1,h2⟩:=List.pairwise_cons.1 h
  unfold NS
  split
  ·rename_i hxy
   refine List.pairwise_cons.2 ⟨fun z hz=>?_,h⟩
   rcases List.mem_cons.1 hz with e | hz
   ·subst e; exact hxy
   ·exact List.le_trans hxy (h1 z hz)
  ·rename_i hxy
   have hyx:y≤x:=(List.le_total x y).resolve_left hxy
   refine List.pairwise_cons.2 ⟨fun z hz=>?_,Ka x ys h2⟩
   rcases List.mem_cons.1 ((JB x ys).mem_iff.1 hz) with e | hz
   ·subst e; exact hyx
   ·exact h1 z hz
theorem EP:∀ l,(E7 l).Pairwise (· ≤ ·)
 | []=>List.Pairwise.nil
 | x::l=>Ka x _ (EP l)
theorem Mb {l l':List (List UInt8)} (h:l.Perm l'):E7 l=E7 l' :=
 List.Perm.eq_of_pairwise (le:=(· ≤ ·)) (fun a b _ _ h1 h2=>List.le_antisymm h1 h2) (EP l) (EP l') (((DE l).trans h).trans (DE l').symm)
theorem UX (l:List (List UInt8)):(l.mergeSort fun x y=>decide (x≤y))=E7 l:=by
 have tr:∀ a b c:List UInt8,decide (a≤b)=true->decide (b≤c)=true->decide (a≤c)=true:=fun a b c h1 h2=>by simp only [decide_eq_true_eq] at *; exact List.le_trans h1 h2
 have to:∀ a b:List UInt8,(decide (a≤b) || decide (b≤a))=true:=fun a b=>by simp only [Bool.or_eq_true,decide_eq_true_eq]; exact List.le_total a b
 refine List.Perm.eq_of_pairwise (le:=(· ≤ ·)) (fun a b _ _ h1 h2=>List.le_antisymm h1 h2) ?_ (EP l) ((List.mergeSort_perm l _).trans (DE l).symm)
 exact (List.pairwise_mergeSort tr to l).imp fun h=>by simpa using h
theorem Lr:∀ {l:List V} {κ:List V->R},(L8 l κ).good->∀ x∈l,∃ n d,x = .str n d
 | [],_,_,x,hx=>by simp at hx
 | y::l,κ,hg,x,hx=>by
  have hg:R.good (Bd y fun _ _=>L8 l fun zs=>UH y zs κ):=hg
  obtain ⟨n,d,rfl,e⟩:=BA hg
  rw [e] at hg
  rcases List.mem_cons.1 hx with e | hx
  ·exact ⟨n,d,e⟩
  ·exact Lr hg x hx
def Gy:Gr:=fun args h n =>
 Da args fun x l=>GM l (CK x (.rv (.tup []) h n) fun p off len cap ex esz=>br (Nat.beq esz 1) (br (Nat.beq len 0) (.rv (.tup []) h n) (br (Nat.ble len 1000000) (HH p h fun cs _ _=>Bs cs off len fun z=>E0 z fun xs=>L8 xs fun ys=>FL h p off (.l ys) fun h=>.rv (.tup []) h n) (.fail ""))) (.fail ""))
end
section
variable {P:Program} {ρ:Env} {B:Nat}
def RT (P:Program) (f:FuncId):Prop :=
 (∀ (blk off cap:Nat) (ss:List (List UInt8)) (w:World),Go.Sort.Holds encStr w blk off ss.toArray->blk<w.heap.size->ss.length<4611686018427387904 →
  Calls P f #[.slice (some ⟨blk,off,none⟩) ss.length cap] w fun e w'=>e = .returned (.tuple #[]) ∧ ∃ n os,w'=Go.Sort.grow (Go.Sort.putRow encStr (Go.Sort.ahead w n) blk off (ss.mergeSort fun x y=>decide (x≤y)).toArray) os) ∧
 ∀ (p:Option Addr) (cap:Nat) (w:World),Calls P f #[.slice p 0 cap] w fun e w'=>e = .returned (.tuple #[])∧w'=w
theorem Ja {φ:Ba}:AL ρ φ (.tup []) (.tuple #[]):=by
 simp only [AL]
 exact ⟨#[],rfl,AH.2 rfl⟩
theorem VD {h:Heap} {n:K4} {φ:Ba} {w:World} (g:Gam ρ B h n φ w) {p:K4} {off:Nat} {cs y z:Cs} {prev:Option K4} {b s tot:Nat} (hp:Ar p h=some (.c cs false prev)) (hφ:φ p=some (b,s,tot)) (hz:Nf cs off y z)
  {d:Array (List UInt8)} (hl:d.size=y.len) (hv:∀ i v,y.at i=some v->AL ρ φ v (encStr d[i]!)) (k:Nat) (os:Array Obj) :
  Gam ρ B (AJ p (Ck prev h) (some (.c z false none))) n φ (Go.Sort.grow (Go.Sort.putRow encStr (Go.Sort.ahead w k) b (s+off) d) os) ∧
  Fr h (AJ p (Ck prev h) (some (.c z false none))) φ φ n n w (Go.Sort.grow (Go.Sort.putRow encStr (Go.Sort.ahead w k) b (s+off) d) os):=by
 obtain ⟨c,e,fr,k1,k2,k3,k4,k5⟩:=g.obj p _ b s tot hp hφ
 obtain ⟨z1,z2,z3,z4,z5⟩:=hz
 have hb:=(g.blk p b s tot hφ).2
 have hat:∀ i,(Go.Sort.putCells encStr (s+off) d c)[i]? = if s+off≤i∧i<s+off+d.size then (c[i]?).map (fun _=>encStr d[i - (s+off)]!) else c[i]?:=fun i=>by
  unfold Go.Sort.putCells
  rw [Array.getElem?_mapIdx]
  split
  ·rename_i hi
   cases c[i]? <;> simp [hi]
  ·rename_i hi
   cases c[i]? <;> simp [hi]
 have hG:Gam ρ B (AJ p (Ck prev h) (some (.c z false none))) n φ (Cc w b (.cells (Go.Sort.putCells encStr (s+off) d c) e fr)):=by
  refine g.write (o:=.c cs false prev) (o':=.c z false none) hp hφ rfl rfl ⟨_,e,fr,Cg hb,by unfold Go.Sort.putCells; rw [Array.size_mapIdx,k2],by rw [z2]; exact k3,k4,fun i v hi=>?_⟩
  by_cases ha:i<off
  ·rw [z3 i ha] at hi
   obtain ⟨x,hx,hr⟩:=k5 i v hi
   exact ⟨x,by show (Go.Sort.putCells encStr (s+off) d c)[s+i]? = some x; rw [hat,if_neg (by omega)]; exact hx,hr⟩
  ·by_cases hb':i<off+y.len
   ·obtain ⟨j,rfl⟩:∃ j,i=off+j:=⟨i - off,by omega⟩
    have hin:s+(off+j)<c.size:=by omega
    rw [z4 j (by omega)] at hi
    refine ⟨encStr d[j]!,?_,hv j v hi,rfl⟩
    show (Go.Sort.putCells encStr (s+off) d c)[s+(off+j)]? = some _
    rw [hat,if_pos (by omega),Array.getElem?_eq_getElem hin]
    simp only [Option.map_some]
    rw [show s+(off+j) - (s+off)=j by omega]
   ·rw [z5 i (by omega)] at hi
    obtain ⟨x,hx,hr⟩:=k5 i v hi
    exact ⟨x,by show (Go.Sort.putCells encStr (s+off) d c)[s+i]? = some x; rw [hat,if_neg (by omega)]; exact hx,hr⟩
 have hF:Fr h (AJ p (Ck prev h) (some (.c z false none))) φ φ n n w (Cc w b (.cells (Go.Sort.putCells encStr (s+off) d c) e fr)):=Fr.write (o:=.c cs false prev) hp hφ
 have hheap:∀ i,i<w.heap.size->(Go.Sort.grow (Go.Sort.putRow encStr (Go.Sort.ahead w k) b (s+off) d) os).heap[i]? = (Cc w b (.cells (Go.Sort.putCells encStr (s+off) d c) e fr)).heap[i]?:=fun i hi=>by
  show ((w.heap.modify b (Go.Sort.onCells (Go.Sort.putCells encStr (s+off) d)))++os)[i]? = _
  rw [Array.getElem?_append_left (by rw [Array.size_modify]; exact hi),Array.getElem?_modify]
  by_cases e':b=i
  ·subst e'
   rw [if_pos rfl,Cg hi,k1]; rfl
  ·rw [if_neg e',FF e']
 have hbel:Below (Cc w b (.cells (Go.Sort.putCells encStr (s+off) d c) e fr)).heap.size (Cc w b (.cells (Go.Sort.putCells encStr (s+off) d c) e fr)) (Go.Sort.grow (Go.Sort.putRow encStr (Go.Sort.ahead w k) b (s+off) d) os):=by
  refine ⟨rfl,rfl,rfl,?_,fun i hi=>?_⟩
  ·rw [Cw]
   show _≤((w.heap.modify b (Go.Sort.onCells (Go.Sort.putCells encStr (s+off) d)))++os).size
   rw [Array.size_append,Array.size_modify]; omega
  ·rw [Cw] at hi
   exact hheap i hi
 obtain ⟨g2,f2⟩:=hG.below hbel
 exact ⟨g2,hF.trans f2⟩
theorem X9 {φ:Ba} {s:List UInt8}:AL ρ φ (vS s) (encStr s):=by
 unfold vS
 simp only [AL]
 exact ⟨_,rfl,rfl,rfl⟩
theorem Pf {f:FuncId} {fn:Func} (hf:P.funcs[f]? = some fn) (hb:fn.body.isSome=true) (hn:(fn.name == "runtime.NumGoroutine")=false) (hS:RT P f):EE P ρ B f Gy:=by
 intro args h n v h1 n1 hx φ w xs g hr
 have hg:(Gy args h n).good:=Bc hx
 unfold Gy at hx hg
 obtain ⟨x,l,rfl,q1⟩:=Br hg
 rw [q1] at hx hg
 obtain ⟨rfl,q3⟩:=Cj hg
 rw [q3] at hx hg
 obtain ⟨X,ys,hX,r0,hr⟩:=Au.1 hr
 obtain rfl:=AH.1 hr
 obtain ⟨cd,hcd⟩:=Option.isSome_iff_exists.1 hb
 have nothing:∀ (q:Option Addr) (cap:Nat),xs = #[.slice q 0 cap]->R.rv (.tup []) h n=R.rv v h1 n1->HR P f xs w fun x w'=>∃ φ',Fr h h1 φ φ' n n1 w w'∧Gam ρ B h1 n1 φ' w'∧AL ρ φ' v x:=fun q cap e hx=>by
  subst e
  cases hx
  exact BP hf hcd hn ((hS.2 q cap w).mono fun e w' ⟨he,hw⟩=>⟨_,he,φ,by subst hw; exact ⟨Fr.refl h φ n _,g,Ja⟩⟩)
 rcases C8 hg with ⟨rfl,q4⟩ | ⟨p,off,len,cap,ex,esz,rfl,q4⟩
 ·rw [q4] at hx
  have:=BL r0
  refine nothing none 0 ?_ hx
  cases xs; simp at hX; simp [hX,this,C2]
 rw [q4] at hx
 clear hg q1 q3 q4
 obtain ⟨b,s,tot,o,cap',hφ,rfl,c1,c2,_,c4⟩:=CI r0
 obtain rfl:xs = #[.slice (some ⟨b,o,none⟩) len cap']:=by cases xs; simp at hX; simp [hX]
 obtain ⟨hz,hx1⟩:=C3 hx
 clear hx
 obtain rfl:=Nat.eq_of_beq_eq_true hz
 cases h0:Nat.beq len 0 with
 | true =>
  rw [h0] at hx1
  obtain rfl:=Nat.eq_of_beq_eq_true h0
  exact nothing _ _ rfl hx1
 | false =>
  rw [h0,AR] at hx1
  have hlen0:len≠0:=fun e=>by subst e; cases h0
  obtain ⟨hm,hx⟩:=C3 hx1
  clear hx1
  have hm:=Ao.1 hm
  rw [F9] at hx
  obtain ⟨cs0,sup,prev,hp,q5⟩:=CG (Bc hx)
  rw [q5] at hx
  obtain ⟨hlen,z,hzl,hza,q6⟩:=C6 (Bc hx)
  rw [q6] at hx
  obtain ⟨zs,hx,hzs,hzi⟩:=V6 hx
  clear q5 q6
  have hstr:=Lr (Bc hx)
  obtain ⟨cc,e,fr,hw,htot,hst,hfr,hcs⟩:=g.obj p _ b s tot hp hφ
  have hbw:=(g.blk p b s tot hφ).2
  obtain ⟨ss,ess,hss⟩:=RN (ρ:=ρ) (φ:=φ) (f:=fun i=>cc[s+(off+i)]?) hstr fun i u hu=>by
   have hi:i<len:=by
    have:=(List.getElem?_eq_some_iff.1 hu).1
    omega
   rw [hzi i,hza i hi] at hu
   obtain ⟨x,k1,k2,_⟩:=hcs _ u hu
   exact ⟨x,k1,k2⟩
  have hssl:ss.length=len:=by rw [←hzl,←hzs,ess,List.length_map]
  have ess':zs=(ss.map (·.data.toList)).map vS:=by rw [ess,List.map_map]; rfl
  rw [ess',IN,Dl] at hx
  obtain ⟨cs,prev',zz,hp',hzz,q8⟩:=DG (Bc hx)
  rw [hp] at hp'
  cases hp'
  rw [q8] at hx
  cases hx
  have ho:=c4 (by omega)
  have hsl:(E7 (ss.map (·.data.toList))).length=len:=by rw [(DE _).length_eq,List.length_map,hssl]
  have HS:=hS.1 b o cap' (ss.map (·.data.toList)) w (fun j hj=>by
   have hj:j<ss.length:=by simpa using hj
   have hc:=hss j ss[j] (List.getElem?_eq_getElem hj)
   have hc:cc[s+(off+j)]? = some (.string ss[j]):=hc
   have hin:=(Array.getElem?_eq_some_iff.1 hc).1
   refine ⟨?_,?_⟩
   ·simp only [World.cell?,hw]
    rw [ho.1,show s+off+j=s+(off+j) by omega]
    simp only [List.getElem!_toArray,Array.getElem?_eq_getElem]
    rw [getElem!_pos _ j (by simpa using hj)]
    simpa using hc
   ·simp only [World.frozen?,hw]
    rcases hfr with e | e
    ·cases fr; simp only at e; subst e; simp
    ·cases fr; simp only at e; simp; omega) hbw (by rw [List.length_map,hssl]; omega)
  rw [List.length_map,hssl] at HS
  refine BP hf hcd hn (HS.mono fun e w' ⟨he,k,os,hw'⟩=>⟨_,he,φ,?_⟩)
  subst hw'
  rw [UX,ho.1]
  obtain ⟨g2,f2⟩:=VD g hp hφ hzz (d:=(E7 (ss.map (·.data.toList))).toArray) (by simp [Cs.len,List.length_map]) (fun i u hu=>by
   have hu:((E7 (ss.map (·.data.toList))).map vS)[i]? = some u:=hu
   rw [List.getElem?_map] at hu
   cases hi:(E7 (ss.map (·.data.toList)))[i]? with
   | none=>rw [hi] at hu; cases hu
   | some t =>
    rw [hi] at hu
    cases hu
    have hlt:=(List.getElem?_eq_some_iff.1 hi)
    obtain ⟨hlt,rfl⟩:=hlt
    rw [getElem!_pos _ i (by simpa using hlt)]
    simpa using X9) k os
  exact ⟨f2,g2,Ja⟩
end
end Go.Ev

namespace Go.Ev
set_option linter.unusedVariables false
set_option maxRecDepth 100000
def TK (r:R) (κ:V->Heap->K4->R):R:=@R.rec (fun _=>R) (FQ "") (fun v h n=>κ v h n) (fun w=>.fail w) (FQ "") r
theorem QX {r:R} {κ:V->Heap->K4->R} (hg:(TK r κ).good):∃ v h n,r = .rv v h n∧TK r κ=κ v h n:=by
 cases r with
 | rv v h n=>exact ⟨v,h,n,rfl,rfl⟩
 | _=>exact hg.elim
def WW (n:K4) (h:Heap) (acc:List K4) (r:R):R :=
 TK r fun v1 h1 m1=>HG n v1 h1 v1 h1 (FH n h1 h1 acc (Uf m1 n fun m=>LW h h1 acc fun hf=>UU n v1 h1 hf m))
def Vt (k:Nat) (canon:Heap->List K4->R) (args:List V) (h:Heap) (n:K4):R :=
 DT h k (UQ args []) AS [] fun hs acc=>WW n h acc (canon hs acc)
section
variable {P:Program} {ρ:Env} {B:Nat}
theorem Rp {f:FuncId} {canon:Heap->List K4->R} {k:Nat} {args:List V} {h:Heap} {n:K4} {v:V} {h1:Heap} {n1:K4} (hr:Vt k canon args h n = .rv v h1 n1) {φ:Ba} {w:World} {xs:Array Value} (g:Gam ρ B h n φ w)
  (H:∀ (hs:Heap) (acc:List K4) (v1:V) (hh1:Heap) (m1 m:K4),Sub h hs acc->canon hs acc = .rv v1 hh1 m1->Rz n v1 hh1 v1 hh1->(∀ p∈acc,∀ o,Ar p hh1=some o->Jq n o)->m1.toN≤m.toN->Gam ρ B hs n φ w →
   HR P f xs w fun x w'=>∃ v h' n' φ',U8 n v1 hh1 acc m (.rv v h' n')∧Fr hs h' φ φ' n n' w w'∧Gam ρ B h' n' φ' w'∧AL ρ φ' v x) :
  HR P f xs w fun x w'=>∃ φ',Fr h h1 φ φ' n n1 w w'∧Gam ρ B h1 n1 φ' w'∧AL ρ φ' v x:=by
 unfold Vt at hr
 obtain ⟨hs,acc,sub,e1⟩:=EY k (todo:=UQ args []) (κ:=fun hs acc=>WW n h acc (canon hs acc)) (Sub.nil (h:=h))
 rw [e1] at hr
 unfold WW at hr
 obtain ⟨v1,hh1,m1,hc,e2⟩:=QX (Bc hr)
 rw [e2] at hr
 obtain ⟨res,e3⟩:=IW (Bc hr)
 rw [e3] at hr
 obtain ⟨all,e4⟩:=Gs (Bc hr)
 rw [e4] at hr
 obtain ⟨m,e5,l1,l2⟩:=Sb m1 n fun m=>LW h hh1 acc fun hf=>UU n v1 hh1 hf m
 rw [e5] at hr
 obtain ⟨hf,put,e6⟩:=Im (Bc hr)
 rw [e6] at hr
 have gs:Gam ρ B hs n φ w:=by
  refine ⟨g.base,g.dom,g.blk,fun p o b s tot hp hx=>?_,fun p q o o' b s tot s' tot' hne hp hq hx hy=>?_,fun p q o o' b s tot s' tot' hp hpr hq hx hy=>?_,g.glob⟩
  ·obtain ⟨o0,e0,rfl,_⟩:=sub.sub p o hp
   exact Ru (g.obj p o0 b s tot e0 hx)
  ·exfalso
   obtain ⟨o0,e0,_,g0,_⟩:=sub.sub p o hp
   obtain ⟨o1,e1,_,g1,_⟩:=sub.sub q o' hq
   have no:∀ (ob:Ob),Hi ob=true->J4 ob=true->False:=fun ob h1 h2=>by
    cases ob with
    | c cs sup prev =>
     cases sup with
     | true=>cases h1
     | false=>cases h2
    | _=>cases h2
   rcases g.sep p q o0 o1 b s tot s' tot' hne e0 e1 hx hy with h | h
   ·exact no o1 g1 (g.sup p q o0 o1 b s tot s' tot' e0 h e1 hx hy)
   ·exact no o0 g0 (g.sup q p o1 o0 b s' tot' s tot e1 h e0 hy hx)
  ·obtain ⟨o0,e0,rfl,_⟩:=sub.sub p o hp
   rw [MY] at hpr; cases hpr
 intro o a K Q hK
 refine H hs acc v1 hh1 m1 m sub hc res (fun p hp=>(all p hp).2) l1 gs o a K Q fun x w' ⟨v',h',n',φ',way,f1,g1,r1⟩=>hK x w' ?_
 exact Ub sub put g f1 g1 r1 way l2 hr
end
theorem D.nx_u (d:D):d.toN=15 ∨ ∃ e:D,e.toN=d.toN+1 ∧ ∀ {β:Type} (k:D->β) (c:β),d.nx k c=k e:=by
 cases d
 case d15=>exact .inl rfl
 all_goals exact .inr ⟨_,rfl,fun _ _=>rfl⟩
theorem D.nx_f {d:D} (h:d.toN=15) {β:Type} (k:D->β) (c:β):d.nx k c=c:=by
 rcases d.nx_eq k c with ⟨e,_⟩ | ⟨e,he,_⟩
 ·exact e
 ·have:=e.toN_lt; omega
theorem K4.nx_u (p:K4) (h:p.toN<65535):∃ q:K4,q.toN=p.toN+1 ∧ ∀ k:K4->R,p.nx k=k q:=by
 obtain ⟨a,b,c,d⟩:=p
 simp only [K4.nx,K4.toN] at h ⊢
 have hd0:D.d0.toN=0:=rfl
 rcases d.nx_u with hd | ⟨e,he,hd⟩
 ·rcases c.nx_u with hc | ⟨e,he,hc⟩
  ·rcases b.nx_u with hb | ⟨e,he,hb⟩
   ·rcases a.nx_u with ha | ⟨e,he,ha⟩
    ·omega
    ·exact ⟨⟨e,.d0,.d0,.d0⟩,by simp only [hd0]; omega,fun k=>by rw [D.nx_f hd,D.nx_f hc,D.nx_f hb,ha]⟩
   ·exact ⟨⟨a,e,.d0,.d0⟩,by simp only [hd0]; omega,fun k=>by rw [D.nx_f hd,D.nx_f hc,hb]⟩
  ·exact ⟨⟨a,b,e,.d0⟩,by simp only [hd0]; omega,fun k=>by rw [D.nx_f hd,hc]⟩
 ·exact ⟨⟨a,b,c,e⟩,by simp only; omega,fun k=>by rw [hd]⟩
def Xu (j:Nat):K4->(K4->R)->R:=@Nat.rec (fun _=>K4->(K4->R)->R) (fun p κ=>κ p) (fun _ ih p κ=>p.nx fun p=>ih p κ) j
theorem Ls:∀ {j:Nat} {p:K4} {κ:K4->R},(Xu j p κ).good->∃ q:K4,q.toN=p.toN+j∧Xu j p κ=κ q
 | 0,p,κ,_=>⟨p,rfl,rfl⟩
 | j+1,p,κ,h=>by
  replace h:R.good (p.nx fun p=>Xu j p κ):=h
  rcases p.nx_eq (fun p=>Xu j p κ) with ⟨w,e⟩ | ⟨q,hq,e⟩
  ·rw [e] at h; exact h.elim
  ·rw [e] at h
   obtain ⟨r,hr,e2⟩:=Ls h
   exact ⟨r,by omega,Eq.trans e e2⟩
theorem K4.toN_max (p:K4):p.toN≤65535:=by
 obtain ⟨a,b,c,d⟩:=p
 have:=a.toN_lt; have:=b.toN_lt; have:=c.toN_lt; have:=d.toN_lt
 simp only [K4.toN]; omega
section
variable {h:Heap} {n n' p:K4}
theorem Fp {o:Ob} {κ:Heap->K4->R} (hn:∀ k:K4->R,n.nx k=k n'):Gg h n o κ=κ (AJ n h (some o)) n':=by
 rw [Hx]
 show EU n h (some o) (fun h'=>n.nx fun n'=>κ h' n')=_
 rw [Bm,hn]
theorem GA {cs:Cs} {sup:Bool} {prev:Option K4} {κ:Cs->Bool->Option K4->R} (hp:Ar p h=some (.c cs sup prev)):HH p h κ=κ cs sup prev:=by
 unfold HH
 rw [Bz,hp]
theorem GZ {cs:Cs} {sup:Bool} {prev:Option K4} {κ:Cs->Bool->Option K4->R} (hp:Ar p h=some (.c cs sup prev)):I4 p h κ=κ cs sup prev:=by
 rw [←F9,GA hp]
theorem FN {es:List (V×V)} {bs:List Nat} {c:Nat} {κ:List (V×V)->List Nat->Nat->R} (hp:Ar p h=some (.m es bs c)):KD p h κ=κ es bs c:=by
 unfold KD
 rw [Bz,hp]
theorem Jp {q:K4} {s:Nat} {l:List Nat} {c:Nat} {κ0:R} {κ:K4->Nat->List Nat->Nat->R} (hp:Ar p h=some (.it q s l c)):Rw p h κ0 κ=κ q s l c:=by
 unfold Rw
 rw [Bz,hp]
theorem Dt {o:Cu} {κ:Heap->R}:Bx p h o κ=κ (AJ p h o):=by rw [C0,Bm]
theorem LK {cs:Cs} {κ:KV} (hn:∀ k:K4->R,n.nx k=k n'):AN cs h n κ=κ (.ptr n 0) (AJ n h (some (.c cs false none))) n':=Fp hn
theorem Pe {len esz:Nat} {l:List V} {κ:KV} (hn:∀ k:K4->R,n.nx k=k n'):B4 false len esz l h n κ=κ (.sl n 0 len len true esz) (AJ n h (some (.c (.l l) false none))) n' :=
 Fp (κ:=fun h' n'=>κ (.sl n 0 len len true esz) h' n') hn
theorem LL {x y a b:V} {κ:Heap->R} (hp:Ar p h=some (.c (.l [x,y]) false none)):AP 2 (.ptr p 0) (.agg [a,b]) h κ=κ (AJ p h (some (.c (.l [a,b]) false none))):=by
 show FL h p 0 (.l [a,b]) κ=_
 rw [Dl]
 unfold Dq
 rw [GZ hp]
 show EU p h (some (.c (.l [a,b]) false none)) κ=_
 rw [Bm]
theorem JJ {a b:V} {sup:Bool} {prev:Option K4} {κ:V->R} (hp:Ar p h=some (.c (.l [a,b]) sup prev)):AB 2 (.ptr p 0) h κ=κ (.agg [a,b]):=by
 show HH p h (fun cs _ _=>Bs cs 0 2 fun y=>E0 y fun l=>κ (.agg l))=_
 rw [GA hp]; rfl
theorem Iz {a b:Nat} {κ:V->R}:A7 b (.ptr p a) κ=κ (.ptr p (a+b)):=by
 show Aj (Nat.add a b) (fun o=>κ (.ptr p o))=_
 rw [Ai]; rfl
theorem OC:∀ {xs:List V} {κ:List V->R},Df xs.length xs κ=κ xs
 | [],κ=>rfl
 | x::xs,κ=>by
  show Df xs.length xs (fun zs=>κ (x::zs))=_
  rw [OC]
theorem EX {xs:List V} {κ:Cs->R}:Bs (.l xs) 0 xs.length κ=κ (.l xs):=by
 show Df xs.length xs (fun zs=>κ (.l zs))=_
 rw [OC]
theorem Q2 {s:V} {κ:KV} (hn:∀ k:K4->R,n.nx k=k n') (hp:Ar p h=some (.c (.l [s]) false none)) :
  AZ 1 16 (.nil .sl) (.sl p 0 1 1 true 1) h n κ=κ (.sl n 0 1 1 false 1) (AJ n h (some (.c (.l [s]) false none))) n':=by
 show I4 p h (fun cs _ _=>Aj (Nat.mul 1 1) fun m=>Bs cs 0 m fun y=>FJ 1 16 (.nil .sl) 1 y h n κ)=_
 rw [GZ hp,Ai]
 show Gg h n (.c (.l [s]) false none) (fun h' n'=>κ (.sl n 0 1 1 false 1) h' n')=_
 rw [Fp hn]
theorem Tq {q:K4} {xs:List V} {prev:Option K4} {s:V} {κ:KV} (hn:∀ k:K4->R,n.nx k=k n') (hp:Ar p h=some (.c (.l [s]) false none)) (hq:Ar q h=some (.c (.l xs) false prev)) (hl:xs.length≤1000000000) :
  AZ 1 16 (.sl q 0 xs.length xs.length false 1) (.sl p 0 1 1 true 1) h n κ =
   κ (.sl n 0 (xs.length+1) (xs.length+1) false 1) (AJ n (AJ q (Ck prev h) (some (.c (.l xs) true none))) (some (.c (.l (xs++[s])) false (some q)))) n':=by
 show I4 p h (fun cs _ _=>Aj (Nat.mul 1 1) fun m=>Bs cs 0 m fun y=>FJ 1 16 (.sl q 0 xs.length xs.length false 1) 1 y h n κ)=_
 rw [GZ hp,Ai]
 show Aj (Nat.add xs.length 1) (fun need=>br (Nat.ble need xs.length) _ _)=_
 rw [Ai]
 have h1:Nat.ble (Nat.add xs.length 1) xs.length=false:=Bh (by show xs.length<xs.length+1; omega)
 have h2:Nat.ble (Nat.mul (Nat.add (Nat.mul 4 (Nat.add xs.length 1)) 4096) 16) 281474976710656=true:=Ao.2 (by show (4*(xs.length+1)+4096)*16≤281474976710656; omega)
 rw [h1,h2]
 show HH q h _=_
 rw [GA hq,Ai]
 show Bs (.l xs) 0 (xs.length*1) _=_
 rw [Nat.mul_one,EX]
 show EF xs [s] (fun zs=>_)=_
 rw [Dz]
 show Aj (Nat.add 0 (Nat.mul xs.length 1)) (fun j=>Bs (.l xs) 0 j _)=_
 rw [Ai,show Nat.add 0 (Nat.mul xs.length 1)=xs.length by show 0+xs.length*1=_; omega,EX,Es]
 show EU q (Ck prev h) (some (.c (.l xs) true none)) _=_
 rw [Bm,Fp hn]
end
theorem UZ {x:V} {l:List V} {κ:V->R}:Ap 0 (.tup (x::l)) κ=κ x:=rfl
theorem Pm {m c:Nat} {κ:List V->R}:A9 0 (.str m c) [.str 0 0] κ=κ [.str m c]:=rfl
theorem LF {xs ys:List V} {κ:Cs->R} (h:ys.length=xs.length):Om (.l xs) 0 (.l ys) κ=κ (.l ys):=by
 have hd:∀ (xs:List V) (κ:List V->R),DS xs.length xs κ=κ []:=fun xs=>by
  induction xs with
  | nil=>exact fun _=>rfl
  | cons x xs ih=>exact fun κ=>ih κ
 show G4 ys (fun m=>Aj (Nat.add 0 m) fun j=>DS j xs fun b=>EF ys b fun t=>κ (.l t))=_
 rw [D1,Ai,show Nat.add 0 ys.length=xs.length by show 0+ys.length=_; omega,hd,Dz,List.append_nil]
theorem Qx {p:K4} {h:Heap} {κ:List (V×V)->List Nat->Nat->R} {v:V} {h':Heap} {n:K4} (hx:KD p h κ = .rv v h' n):∃ es bs c,Ar p h=some (.m es bs c)∧κ es bs c = .rv v h' n:=by
 rw [Jx] at hx
 obtain ⟨es,bs,c,hp,e⟩:=DY (Bc hx)
 exact ⟨es,bs,c,hp,by rw [←e]; exact hx⟩
theorem Ih {p:K4} {h:Heap} {κ:Cs->Bool->Option K4->R} {v:V} {h':Heap} {n:K4} (hx:HH p h κ = .rv v h' n):∃ cs sup prev,Ar p h=some (.c cs sup prev)∧κ cs sup prev = .rv v h' n:=by
 rw [F9] at hx
 obtain ⟨cs,sup,prev,hp,e⟩:=CG (Bc hx)
 exact ⟨cs,sup,prev,hp,by rw [←e]; exact hx⟩
theorem Hw {i:Nat} {l:List V} {κ:V->R} {v:V} {h':Heap} {n:K4} (hx:CL i l κ = .rv v h' n):∃ u,l[i]? = some u∧κ u = .rv v h' n:=by
 obtain ⟨u,hu,e⟩:=DL (Bc hx)
 exact ⟨u,hu,by rw [←e]; exact hx⟩
theorem K0 {α β γ:Type} (g:α->List γ):∀ (es:List α) (bs:List β),es.length=bs.length->(es.zip bs).flatMap (fun y=>g y.1)=es.flatMap g
 | [],bs,_=>by simp
 | e::es,[],h=>by simp at h
 | e::es,b::bs,h=>by
  rw [List.zip_cons_cons,List.flatMap_cons,List.flatMap_cons,K0 g es bs (by simpa using h)]
theorem JM {κ:S->Heap->K4->R} {Φ:R->Prop}:∀ {r:R},r.sat (fun x=>(SF x κ).sat Φ)->(SF r κ).sat Φ
 | .fail _,h=>h.elim
 | .both a b,h=>⟨JM h.1,JM h.2⟩
 | .ok _ _ _ _,h=>h
 | .rv _ _ _,h=>h
theorem HJ {id:Nat} {κ:S->Heap->K4->R} {Φ:R->Prop}:∀ {r:R},r.sat (fun x=>(Ac id x κ).sat Φ)->(Ac id r κ).sat Φ
 | .fail _,h=>h.elim
 | .both a b,h=>⟨HJ h.1,HJ h.2⟩
 | .ok _ _ _ _,h=>h
 | .rv _ _ _,h=>h
theorem Ht {re:S->Heap->K4->R} {Φ:R->Prop}:∀ {r:R},r.sat (fun x=>(Qr x re).sat Φ)->(Qr r re).sat Φ
 | .fail _,h=>h.elim
 | .both a b,h=>⟨Ht h.1,Ht h.2⟩
 | .ok _ _ _ _,h=>h
 | .rv _ _ _,h=>h
section
variable {seen:List Nat} {leaf:V×V->Nat->R} {Φ:R->Prop}
theorem JO:∀ {es:List (V×V)} {bs:List Nat} {acc:R},es.length=bs.length->acc.sat Φ->(∀ (i:Nat) (e:V×V) (b:Nat),es[i]? = some e->bs[i]? = some b->Dd b seen=false->(leaf e b).sat Φ)->(EC seen leaf es bs acc).sat Φ
 | [],bs,acc,_,h,_=>h
 | e0::es,[],acc,hl,_,_=>by simp at hl
 | e0::es,b0::bs,acc,hl,h,H=>by
  show (br (Dd b0 seen) (EC seen leaf es bs acc) (EC seen leaf es bs (.both acc (leaf e0 b0)))).sat Φ
  have H':∀ (i:Nat) (e:V×V) (b:Nat),es[i]? = some e->bs[i]? = some b->Dd b seen=false->(leaf e b).sat Φ:=fun i e b he hb hn=>H (i+1) e b (by simpa using he) (by simpa using hb) hn
  cases hm:Dd b0 seen with
  | true=>exact JO (by simpa using hl) h H'
  | false=>exact JO (by simpa using hl) ⟨h,H 0 e0 b0 rfl rfl hm⟩ H'
theorem FX:∀ {es:List (V×V)} {bs:List Nat} {z:R},es.length=bs.length->((∀ b∈bs,Dd b seen=true)->z.sat Φ)->(∀ (i:Nat) (e:V×V) (b:Nat),es[i]? = some e->bs[i]? = some b->Dd b seen=false->(leaf e b).sat Φ)->(Js seen leaf es bs z).sat Φ
 | [],bs,z,hl,h,_=>h fun b hb=>by cases bs with | nil=>simp at hb | cons=>simp at hl
 | e0::es,[],z,hl,_,_=>by simp at hl
 | e0::es,b0::bs,z,hl,h,H=>by
  show (br (Dd b0 seen) (Js seen leaf es bs z) (EC seen leaf es bs (leaf e0 b0))).sat Φ
  have H':∀ (i:Nat) (e:V×V) (b:Nat),es[i]? = some e->bs[i]? = some b->Dd b seen=false->(leaf e b).sat Φ:=fun i e b he hb hn=>H (i+1) e b (by simpa using he) (by simpa using hb) hn
  cases hm:Dd b0 seen with
  | true =>
   refine FX (by simpa using hl) (fun hb=>h fun b hb'=>?_) H'
   rcases List.mem_cons.1 hb' with e | hb'
   ·subst e; exact hm
   ·exact hb b hb'
  | false=>exact JO (by simpa using hl) (H 0 e0 b0 rfl rfl hm) H'
end
theorem La {s:Nat}:∀ {es:List (V×V)} {bs:List Nat} {i:Nat} {e:V×V} {κ:V->V->R},es[i]? = some e->bs[i]? = some s->(∀ j,j<i->bs[j]? ≠ some s)->G7 s es bs κ=κ e.1 e.2
 | [],bs,i,e,κ,h,_,_=>by simp at h
 | e0::es,[],i,e,κ,_,h,_=>by simp at h
 | (k,x)::es,b::bs,0,e,κ,h,h2,_=>by
  simp at h h2
  subst h h2
  show br (Nat.beq b b) (κ k x) (G7 b es bs κ)=_
  rw [Nat.beq_refl]; rfl
 | (k,x)::es,b::bs,i+1,e,κ,h,h2,h3=>by
  have hb:Nat.beq b s=false:=by
   cases hx:Nat.beq b s with
   | false=>rfl
   | true=>exact absurd (by rw [Nat.eq_of_beq_eq_true hx]; rfl) (h3 0 (by omega))
  show br (Nat.beq b s) (κ k x) (G7 s es bs κ)=_
  rw [hb]
  exact La (by simpa using h) (by simpa using h2) fun j hj=>by have:=h3 (j+1) (by omega); simpa using this
def QB (bs:List Nat):Bool:=@List.rec Nat (fun _=>Bool) true (fun b tl ih=>br (Dd b tl) false ih) bs
theorem KT:∀ {bs:List Nat},QB bs=true->bs.Nodup
 | [],_=>List.nodup_nil
 | b::tl,h=>by
  replace h:br (Dd b tl) false (QB tl)=true:=h
  cases hm:Dd b tl with
  | true=>rw [hm] at h; cases h
  | false =>
   rw [hm] at h
   rw [Ox] at hm
   exact List.nodup_cons.2 ⟨(fun hb=>by rw [List.contains_iff_mem.2 hb] at hm; cases hm),KT h⟩
abbrev WT:V:=.agg [(iL 0),(iL 0),(iL 0),(iI 0),(iI 0),(.nil .sl),(iI 0),(.bool false)]
abbrev mW (a:V) (k:V->R):R:=Ad (Ab a) k
abbrev gW (a:V) (r:R) (k:V->R):R:=DO true a (fun k=>Ad r k) k
def OS (zc:V) (t:S) (h:Heap) (n:K4):R :=
 g3 t fun zs=>A7 1 zc fun zt=>Aa zt h fun zu=>A9 0 zu [(.str 0 0)] fun zv=>B4 false 1 1 zv h n fun zw h n=>AZ 1 16 zs zw h n fun zx h n=>w3 t zx fun t=>nR t h n
def RZ (zc zi:V) (t:S) (h:Heap) (n:K4) (κ:V->R):R :=
 g0 t fun zj=>gW zi (Ab zj) fun zk=>gW zi (A8 zk Ab) fun zl=>gW zi (A7 0 zl Ab) fun zm=>gW zi (Aa zm h Ab) fun zn=>gW zi (AB 2 zc h Ab) fun zo=>gW zi (BQ (.ks [.i,.s]) WT false zn zo h Ab) fun zp=>gW zi (Ng 7 1 false zp Ab) κ
def H6 (z7:V) (t:S) (h:Heap) (n:K4):R :=
 Fy z7 h n fun za h n=>Ap 0 za fun zb=>AN (.l [(iW 0),(.str 0 0)]) h n fun zc h n=>AP 2 zc zb h fun h=>Ad (A7 0 zc Ab) fun zd=>Ad (Aa zd h Ab) fun ze=>g1 t fun zf=>mW zf fun zg=>Ad (Aw ze zg Ab) fun zh=>mW zh fun zi=>RZ zc zi t h n fun zq=>Ad (Al zi zq (.bool false) Ab) fun zr=>AG (Aq zr (OS zc t h n) (nR t h n)) fun t h n=>nR t h n
def JY:S->Heap->K4->R:=fun t h n=>g4 t fun z7=>Ge z7 h n fun z8 h n=>Ap 0 z8 fun z9=>Aq z9 (Ac 1 (H6 z7 t h n) fun t h n=>nR t h n)<|.ok (.exit 0) t h n
def Wt (ks:K3):Ent:=.code (fun l k=>Da l fun a0 l=>Da l fun a1 l=>GM l<|k (.mk (.mk a0 a1 U U) Q0 Q0 Q0 Q0 Q0 Q0 Q0))
 (fun c t h n=>g0 t fun z1=>Bi false (.rf .ptr) z1 (.nil .ptr) fun z2=>Aq z2 (w2 t (.nil .sl) fun t=>rT t h n)<|A8 z1 fun z3=>A7 0 z3 fun z4=>Aa z4 h fun z5=>Kp z5 h n fun z6 h n=>Ac 0 (w2 t (.nil .sl) fun t=>w3 t (.nil .sl) fun t=>w4 t z6 fun t=>AE JY t h n) fun t h n=>g3 t fun zy=>A6 (c ks [zy] h n) fun zz h n=>w2 t zy fun t=>rT t h n)
 (fun t h n=>g2 t fun a0=>.rv a0 h n)
def Ir:Nat->Nat->List UInt8
 | 0,_=>[]
 | m+1,c=>UInt8.ofNat (c % 256)::Ir m (c / 256)
theorem IQ:∀ (m c:Nat),(Ir m c).length=m
 | 0,_=>rfl
 | m+1,c=>by simp [Ir,IQ m]
theorem IT:∀ (m c:Nat),c<256 ^ m->AV (Ir m c)=c
 | 0,c,h=>by simp at h; subst h; rfl
 | m+1,c,h=>by
  have h2:c / 256<256 ^ m:=by rw [Nat.pow_succ] at h; omega
  simp only [Ir,AV]
  rw [IT m _ h2,UInt8.toNat_ofNat_of_lt' (by show c % 256<2 ^ 8; omega)]
  omega
theorem V8 {m c:Nat} (h:c<256 ^ m):vS (Ir m c) = .str m c:=by unfold vS; rw [IQ,IT m c h]
def Gx (es:List (V×V)) (κ:R):R :=
 @List.rec (V×V) (fun _=>R) κ (fun e _ ih=>@Prod.rec V V (fun _=>R) (fun k _=>asAgg k fun l=>Da l fun a l=>Da l fun b l=>GM l (E6 a fun kd t=>br (Be kd .u32) (Bd b fun m c=>br (Nat.ble (Nat.succ c) (Nat.pow 256 m)) ih (.fail "")) (.fail ""))) e) es
def CT (e:V×V):Prop:=∃ t m c,c<256 ^ m∧e.1 = .agg [.int .u32 t,.str m c]
theorem H5 {x:V} {κ:List V->R} (hg:(asAgg x κ).good):∃ l,x = .agg l∧asAgg x κ=κ l:=by
 cases x with
 | agg l=>exact ⟨l,rfl,rfl⟩
 | _=>exact hg.elim
theorem F1 {x:V} {κ:IntKind->Nat->R} (hg:(E6 x κ).good):∃ k r,x = .int k r∧E6 x κ=κ k r:=by
 cases x with
 | int k r=>exact ⟨k,r,rfl,rfl⟩
 | _=>exact hg.elim
theorem GV:∀ {es:List (V×V)} {κ:R},(Gx es κ).good->(∀ e∈es,CT e)∧Gx es κ=κ
 | [],κ,_=>⟨fun e he=>by simp at he,rfl⟩
 | (k,x)::es,κ,h=>by
  replace h:R.good (asAgg k fun l=>Da l fun a l=>Da l fun b l=>GM l (E6 a fun kd t=>br (Be kd .u32) (Bd b fun m c=>br (Nat.ble (Nat.succ c) (Nat.pow 256 m)) (Gx es κ) (.fail "")) (.fail ""))):=h
  have e0:Gx ((k,x)::es) κ=asAgg k fun l=>Da l fun a l=>Da l fun b l=>GM l (E6 a fun kd t=>br (Be kd .u32) (Bd b fun m c=>br (Nat.ble (Nat.succ c) (Nat.pow 256 m)) (Gx es κ) (.fail "")) (.fail "")):=rfl
  rw [e0]
  obtain ⟨l,rfl,e1⟩:=H5 h
  rw [e1] at h ⊢
  obtain ⟨a,l,rfl,e2⟩:=Br h
  rw [e2] at h ⊢
  obtain ⟨b,l,rfl,e3⟩:=Br h
  rw [e3] at h ⊢
  obtain ⟨rfl,e4⟩:=Cj h
  rw [e4] at h ⊢
  obtain ⟨kd,t,rfl,e5⟩:=F1 h
  rw [e5] at h ⊢
  obtain ⟨hk,e6⟩:=Ak h
  rw [e6] at h ⊢
  obtain rfl:=B3.1 hk
  obtain ⟨m,c,rfl,e7⟩:=BA h
  rw [e7] at h ⊢
  obtain ⟨hc,e8⟩:=Ak h
  rw [e8] at h ⊢
  obtain ⟨hs,e9⟩:=GV h
  refine ⟨fun e he=>?_,e9⟩
  rcases List.mem_cons.1 he with rfl | he
  ·exact ⟨t,m,c,Ao.1 hc,rfl⟩
  ·exact hs e he
def Ez (t m c:Nat):List (V×V)->Option V
 | []=>none
 | (.agg [.int .u32 t',.str m' c'],x)::es=>if t=t'∧m=m'∧c=c' then some x else Ez t m c es
 | _::es=>Ez t m c es
theorem W5 {t m c t' m' c':Nat} {κ:Bool->R}:Ky (.ks [.i,.s]) (.agg [.int .u32 t,.str m c]) (.agg [.int .u32 t',.str m' c']) κ=κ (decide (t=t'∧m=m'∧c=c')):=by
 show br (Be .u32 .u32) (Cm (Nat.beq t t') fun r=>br r (Cm (Ij m c m' c') fun r=>br r (κ true) (κ false)) (κ false)) (.fail "")=_
 rw [B3.2 rfl,AD,BK,BK]
 have e1:Nat.beq t t'=decide (t=t'):=by
  cases h:Nat.beq t t' with
  | true=>rw [decide_eq_true (Nat.eq_of_beq_eq_true h)]
  | false=>rw [decide_eq_false (fun e=>by subst e; rw [Nat.beq_refl] at h; cases h)]
 have e2:Ij m c m' c'=decide (m=m'∧c=c'):=by
  unfold Ij
  cases h:Nat.beq m m' with
  | true =>
   have:=Nat.eq_of_beq_eq_true h
   subst this
   cases h2:Nat.beq c c' with
   | true=>rw [decide_eq_true ⟨rfl,Nat.eq_of_beq_eq_true h2⟩]; rfl
   | false=>rw [decide_eq_false (fun e=>by rw [e.2,Nat.beq_refl] at h2; cases h2)]; rfl
  | false=>rw [decide_eq_false (fun e=>by rw [e.1,Nat.beq_refl] at h; cases h)]; rfl
 rw [e1,e2]
 by_cases h1:t=t'
 ·by_cases h2:m=m'∧c=c'
  ·rw [decide_eq_true h1,decide_eq_true h2,decide_eq_true ⟨h1,h2⟩]; rfl
  ·rw [decide_eq_true h1,decide_eq_false h2,decide_eq_false (p:=t=t'∧m=m'∧c=c') fun h=>h2 h.2]; rfl
 ·rw [decide_eq_false h1,decide_eq_false (p:=t=t'∧m=m'∧c=c') fun h=>h1 h.1]; cases decide (m=m'∧c=c') <;> rfl
theorem Gh {t m c:Nat} {κf:V->R} {κn:R}:∀ {es:List (V×V)},(∀ e∈es,CT e)->DM (.ks [.i,.s]) (.agg [.int .u32 t,.str m c]) es κf κn=(match Ez t m c es with | some x=>κf x | none=>κn)
 | [],_=>rfl
 | (k,x)::es,h=>by
  obtain ⟨t',m',c',_,hk⟩:=h (k,x) (List.mem_cons_self ..)
  have hk:k = .agg [.int .u32 t',.str m' c']:=hk
  subst hk
  show Ky (.ks [.i,.s]) (.agg [.int .u32 t,.str m c]) (.agg [.int .u32 t',.str m' c']) (fun r=>br r (κf x) (DM (.ks [.i,.s]) (.agg [.int .u32 t,.str m c]) es κf κn))=_
  rw [W5,Gh fun e he=>h e (List.mem_cons_of_mem _ he)]
  rw [show Ez t m c ((.agg [.int .u32 t',.str m' c'],x)::es)=if t=t'∧m=m'∧c=c' then some x else Ez t m c es from rfl]
  by_cases hc:t=t'∧m=m'∧c=c'
  ·rw [decide_eq_true hc,if_pos hc]; rfl
  ·rw [decide_eq_false hc,if_neg hc]; rfl
def Zg (o:Option V):Bool:=match o with
 | some (.agg l)=>match (l[7]? : Option V) with
  | some (.bool q)=>q
  | _=>false
 | _=>false
def YE (o:Option V):Prop:=∃ l q,o=some (.agg l)∧l[7]? = some (.bool q)
def CN (tn:Nat) (es:List (V×V)) (e:V×V):List (List UInt8):=match e.1 with
 | .agg [.int .u32 t,.str m c]=>if t=tn then (if Zg (Ez t m c es) then [Ir m c] else []) else []
 | _=>[]
def Ra (tn:Nat) (es:List (V×V)) (e:V×V):Prop:=∃ t m c,c<256 ^ m∧e.1 = .agg [.int .u32 t,.str m c]∧(t=tn->YE (Ez t m c es))
def DZ (tn:Nat) (es0:List (V×V)) (es:List (V×V)):(List V->R)->R :=
 @List.rec (V×V) (fun _=>(List V->R)->R) (fun κ=>κ []) (fun e _ ih κ=>@Prod.rec V V (fun _=>R) (fun k _=>asAgg k fun l=>Da l fun a l=>Da l fun b l=>GM l (E6 a fun kd t=>br (Nat.beq t tn)
  (DM (.ks [.i,.s]) k es0 (fun r=>asAgg r fun l=>CL 7 l fun q=>Lk q fun q=>br q (ih fun zs=>κ (b::zs)) (ih κ)) (.fail "")) (ih κ))) e) es
theorem Sw {x:V} {κ:Bool->R} (hg:(Lk x κ).good):∃ q,x = .bool q∧Lk x κ=κ q:=by
 cases x with
 | bool q=>exact ⟨q,rfl,rfl⟩
 | _=>exact hg.elim
theorem GF {tn:Nat} {es0:List (V×V)} (hs:∀ e∈es0,CT e):∀ {es:List (V×V)} {κ:List V->R},(∀ e∈es,CT e)->(DZ tn es0 es κ).good->(∀ e∈es,Ra tn es0 e)∧DZ tn es0 es κ=κ ((es.flatMap (CN tn es0)).map vS)
 | [],κ,_,_=>⟨fun e he=>by simp at he,rfl⟩
 | (k,x)::es,κ,hse,h=>by
  obtain ⟨t,m,c,hc,hk⟩:=hse (k,x) (List.mem_cons_self ..)
  have hk:k = .agg [.int .u32 t,.str m c]:=hk
  subst hk
  have hse':∀ e∈es,CT e:=fun e he=>hse e (List.mem_cons_of_mem _ he)
  have e0:DZ tn es0 ((.agg [.int .u32 t,.str m c],x)::es) κ=br (Nat.beq t tn) (match Ez t m c es0 with | some r=>(asAgg r fun l=>CL 7 l fun q=>Lk q fun q=>br q (DZ tn es0 es fun zs=>κ (.str m c::zs)) (DZ tn es0 es κ)) | none=>.fail "") (DZ tn es0 es κ):=by
   show br (Nat.beq t tn) (DM (.ks [.i,.s]) (.agg [.int .u32 t,.str m c]) es0 (fun r=>asAgg r fun l=>CL 7 l fun q=>Lk q fun q=>br q (DZ tn es0 es fun zs=>κ (.str m c::zs)) (DZ tn es0 es κ)) (.fail "")) (DZ tn es0 es κ)=_
   rw [Gh hs]
  rw [e0] at h ⊢
  have hfm:(((.agg [.int .u32 t,.str m c],x)::es:List (V×V)).flatMap (CN tn es0))=CN tn es0 (.agg [.int .u32 t,.str m c],x)++es.flatMap (CN tn es0):=rfl
  cases hb:Nat.beq t tn with
  | false =>
   have ht:t≠tn:=fun e=>by rw [e,Nat.beq_refl] at hb; cases hb
   rw [hb] at h
   obtain ⟨h1,h2⟩:=GF hs hse' (show R.good (DZ tn es0 es κ) from h)
   refine ⟨fun e he=>?_,?_⟩
   ·rcases List.mem_cons.1 he with rfl | he
    ·exact ⟨t,m,c,hc,rfl,fun e=>absurd e ht⟩
    ·exact h1 e he
   ·rw [AR,h2,hfm]
    have:CN tn es0 (.agg [.int .u32 t,.str m c],x)=[]:=by simp [CN,ht]
    rw [this,List.nil_append]
  | true =>
   have ht:=Nat.eq_of_beq_eq_true hb
   rw [hb,AD] at h
   rw [AD]
   cases hl:Ez t m c es0 with
   | none=>rw [hl] at h; exact h.elim
   | some r =>
    rw [hl] at h
    replace h:R.good (asAgg r fun l=>CL 7 l fun q=>Lk q fun q=>br q (DZ tn es0 es fun zs=>κ (.str m c::zs)) (DZ tn es0 es κ)):=h
    show _∧(asAgg r fun l=>CL 7 l fun q=>Lk q fun q=>br q (DZ tn es0 es fun zs=>κ (.str m c::zs)) (DZ tn es0 es κ))=_
    obtain ⟨l,rfl,e1⟩:=H5 h
    rw [e1] at h ⊢
    obtain ⟨q,hq,e2⟩:=DL h
    rw [e2] at h ⊢
    obtain ⟨q,rfl,e3⟩:=Sw h
    rw [e3] at h ⊢
    have hon:YE (Ez t m c es0):=⟨l,q,hl,hq⟩
    have hcon:CN tn es0 (.agg [.int .u32 t,.str m c],x)=if q then [Ir m c] else []:=by subst ht; simp [CN,Zg,hl,hq]
    cases q with
    | true =>
     replace h:R.good (DZ tn es0 es fun zs=>κ (.str m c::zs)):=h
     show _∧(DZ tn es0 es fun zs=>κ (.str m c::zs))=_
     obtain ⟨h1,h2⟩:=GF hs hse' h
     refine ⟨fun e he=>?_,?_⟩
     ·rcases List.mem_cons.1 he with rfl | he
      ·exact ⟨t,m,c,hc,rfl,fun _=>hon⟩
      ·exact h1 e he
     ·rw [h2,hfm,hcon,if_pos rfl,List.map_append,List.map_cons,List.map_nil,V8 hc]; rfl
    | false =>
     replace h:R.good (DZ tn es0 es κ):=h
     show _∧DZ tn es0 es κ=_
     obtain ⟨h1,h2⟩:=GF hs hse' h
     refine ⟨fun e he=>?_,?_⟩
     ·rcases List.mem_cons.1 he with rfl | he
      ·exact ⟨t,m,c,hc,rfl,fun _=>hon⟩
      ·exact h1 e he
     ·rw [h2,hfm,hcon]; rfl
end Go.Ev

namespace Go.Ev
set_option linter.unusedVariables false
set_option maxRecDepth 100000
def kT (px:K4) (off tn:Nat) (it:K4) (L:V):S:=.mk (.mk (.ptr px off) (.int .u32 tn) (.nil .sl) L) (.mk (.ptr it 0) U U U) Q0 Q0 Q0 Q0 Q0 Q0
def Vn (n0:K4) (h:Heap) (n it:K4) (ss:List (List UInt8)) (L:V):Prop :=
 (ss=[]∧L = .nil .sl)∨(ss≠[] ∧ ∃ q prev,L = .sl q 0 (ss.map vS).length (ss.map vS).length false 1∧Ar q h=some (.c (.l (ss.map vS)) false prev)∧n0.toN≤q.toN∧q.toN<n.toN∧q≠it ∧ ∀ r,prev=some r->n0.toN≤r.toN∧r≠it∧r≠q)
theorem Vn.mono {n0 n n' it:K4} {h h':Heap} {ss:List (List UInt8)} {L:V} (l:Vn n0 h n it ss L) (hn:n.toN≤n'.toN) (hh:∀ p,p.toN<n.toN->n0.toN≤p.toN->Ar p h'=Ar p h):Vn n0 h' n' it ss L:=by
 rcases l with l | ⟨h0,q,prev,h1,h2,h3,h4,h5,h6⟩
 ·exact .inl l
 ·exact .inr ⟨h0,q,prev,h1,by rw [hh q h4 h3]; exact h2,h3,by omega,h5,h6⟩
theorem ne_of_lt {p q:K4} (h:p.toN<q.toN):p≠q:=fun e=>by rw [e] at h; omega
theorem Tt {k:IntKind} {a b:Nat} {κ:V->R}:Aw (.int k a) (.int k b) κ=κ (.bool (Nat.beq a b)):=by
 show kM k k (fun _=>Cm (Nat.beq a b) fun r=>κ (.bool r))=_
 have:∀ F:Nat->R,kM k k F=F (Mk k):=fun F=>by cases k <;> rfl
 rw [this,BK]
section
variable {hs h:Heap} {n0 n px pm it:K4} {off tn clk:Nat} {es:List (V×V)} {bs:List Nat} {xs0:List V} {sup0:Bool} {prev0:Option K4}
theorem QT {L:V} {ss:List (List UInt8)} {seen:List Nat} {e:V×V} {b i:Nat} (hit:Ar it h=some (.it pm clk (b::seen) clk)) (hm:Ar pm h=some (.m es bs clk)) (hx:Ar px h=some (.c (.l xs0) sup0 prev0)) (hxo:xs0[off]? = some (.map pm))
  (he:es[i]? = some e) (hb:bs[i]? = some b) (hnd:bs.Nodup) (hS:∀ e∈es,CT e) (hC:Ra tn es e) (hpm:pm.toN<n0.toN) (hpx:px.toN<n0.toN) (hi0:n0.toN≤it.toN) (hin:it.toN<n.toN) (hl:Vn n0 h n it ss L) (hss:ss.length≤1000000000) (hN:n.toN+3≤65535) :
  ∃ h' L' n',H6 (.ptr it 0) (kT px off tn it L) h n=nR (kT px off tn it L') h' n'∧n.toN≤n'.toN∧n'.toN≤n.toN+3∧(∀ p,p.toN<n0.toN∨p=it->Ar p h'=Ar p h)∧Vn n0 h' n' it (ss++CN tn es e) L':=by
 obtain ⟨n1,hn1,hx1⟩:=K4.nx_u n (by omega)
 obtain ⟨n2,hn2,hx2⟩:=K4.nx_u n1 (by omega)
 obtain ⟨n3,hn3,hx3⟩:=K4.nx_u n2 (by omega)
 obtain ⟨t,m,c,hc,hk,hon⟩:=hC
 obtain ⟨k,x⟩:=e
 have hk:k = .agg [.int .u32 t,.str m c]:=hk
 subst hk
 have hfirst:∀ j,j<i->bs[j]? ≠ some b:=fun j hj e=>by
  have h1:=(List.getElem?_eq_some_iff.1 e)
  have h2:=(List.getElem?_eq_some_iff.1 hb)
  obtain ⟨l1,e1⟩:=h1
  obtain ⟨l2,e2⟩:=h2
  exact List.pairwise_iff_getElem.1 hnd j i l1 l2 hj (e1.trans e2.symm)
 -- the key in a box
 obtain ⟨h1,eh1⟩:∃ h1,h1=AJ n (AJ n h (some (.c (.l [iW 0,.str 0 0]) false none))) (some (.c (.l [.int .u32 t,.str m c]) false none)):=⟨_,rfl⟩
 have g1:Ar n h1=some (.c (.l [.int .u32 t,.str m c]) false none):=by rw [eh1,Am]
 have g1':∀ p,p≠n->Ar p h1=Ar p h:=fun p hp=>by rw [eh1,Ah _ _ hp.symm,Ah _ _ hp.symm]
 have ent:∀ κ:KV,Fy (.ptr it 0) h n κ=κ (.tup [.agg [.int .u32 t,.str m c],x]) h n:=fun κ=>by
  show Rw it h (.fail "") _=_
  rw [Jp hit]
  show KD pm h _=_
  rw [FN hm]
  show br (Nat.beq clk clk) (G7 b es bs fun k x=>κ (.tup [k,x]) h n) (.fail "")=_
  rw [Nat.beq_refl,AD,La he hb hfirst]
 have step1:H6 (.ptr it 0) (kT px off tn it L) h n=Ad (Ab (.bool (Nat.beq t tn))) fun zh=>mW zh fun zi=>RZ (.ptr n 0) zi (kT px off tn it L) h1 n1 fun zq=>Ad (Al zi zq (.bool false) Ab) fun zr=>AG (Aq zr (OS (.ptr n 0) (kT px off tn it L) h1 n1) (nR (kT px off tn it L) h1 n1)) fun t h n=>nR t h n:=by
  unfold H6
  rw [ent,UZ]
  show AN (.l [iW 0,.str 0 0]) h n _=_
  rw [LK hx1]
  show AP 2 (.ptr n 0) (.agg [.int .u32 t,.str m c]) (AJ n h (some (.c (.l [iW 0,.str 0 0]) false none))) _=_
  rw [LL (Am _ _ _),←eh1]
  show Ad (A7 0 (.ptr n 0) Ab) _=_
  rw [Iz]
  show Ad (Aa (.ptr n (0+0)) h1 Ab) _=_
  rw [KQ g1 (v:=.int .u32 t) rfl]
  show Ad (Aw (.int .u32 t) (.int .u32 tn) Ab) _=_
  rw [Tt]
 have nothing:CN tn es (.agg [.int .u32 t,.str m c],x)=[]->H6 (.ptr it 0) (kT px off tn it L) h n=nR (kT px off tn it L) h1 n1 →
   ∃ h' L' n',H6 (.ptr it 0) (kT px off tn it L) h n=nR (kT px off tn it L') h' n'∧n.toN≤n'.toN∧n'.toN≤n.toN+3∧(∀ p,p.toN<n0.toN∨p=it->Ar p h'=Ar p h)∧Vn n0 h' n' it (ss++CN tn es (.agg [.int .u32 t,.str m c],x)) L':=fun e1 e2 =>
  ⟨h1,L,n1,e2,by omega,by omega,fun p hp=>g1' p (by rcases hp with hp | rfl <;> exact ne_of_lt (by omega)),by
   rw [e1,List.append_nil]
   exact hl.mono (by omega) fun p hp _=>g1' p (ne_of_lt hp)⟩
 cases hb2:Nat.beq t tn with
 | false =>
  have ht:t≠tn:=fun e=>by rw [e,Nat.beq_refl] at hb2; cases hb2
  refine nothing (by simp [CN,ht]) ?_
  rw [step1,hb2]; rfl
 | true =>
  have ht:=Nat.eq_of_beq_eq_true hb2
  obtain ⟨l,q,hlk,hq⟩:=hon ht
  have hpmn:pm≠n:=ne_of_lt (by omega)
  have hpxn:px≠n:=ne_of_lt (by omega)
  have step2:H6 (.ptr it 0) (kT px off tn it L) h n=AG (Aq (.bool q) (OS (.ptr n 0) (kT px off tn it L) h1 n1) (nR (kT px off tn it L) h1 n1)) fun t h n=>nR t h n:=by
   rw [step1,hb2]
   show RZ (.ptr n 0) (.bool true) (kT px off tn it L) h1 n1 _=_
   unfold RZ
   show Ad (A7 0 (.ptr px off) Ab) _=_
   rw [Iz]
   show Ad (Aa (.ptr px off) h1 Ab) _=_
   rw [KQ (by rw [g1' px hpxn]; exact hx) (v:=.map pm) hxo]
   show Ad (AB 2 (.ptr n 0) h1 Ab) _=_
   rw [JJ g1]
   show Ad (KD pm h1 fun es _ _=>DM (.ks [.i,.s]) (.agg [.int .u32 t,.str m c]) es (fun r=>br false (Ab (.tup [r,.bool true])) (Ab r)) (br false (Ab (.tup [WT,.bool false])) (Ab WT))) _=_
   rw [FN (by rw [g1' pm hpmn]; exact hm),Gh hS,hlk]
   show Ad (CL 7 l Ab) _=_
   rw [FV hq]; rfl
  cases q with
  | false =>
   refine nothing (by subst ht; simp [CN,Zg,hlk,hq]) ?_
   rw [step2]; rfl
  | true =>
   have hcon:CN tn es (.agg [.int .u32 t,.str m c],x)=[Ir m c]:=by subst ht; simp [CN,Zg,hlk,hq]
   have hv:vS (Ir m c) = .str m c:=V8 hc
   obtain ⟨h2,eh2⟩:∃ h2,h2=AJ n1 h1 (some (.c (.l [.str m c]) false none)):=⟨_,rfl⟩
   have g2:Ar n1 h2=some (.c (.l [.str m c]) false none):=by rw [eh2,Am]
   have g2':∀ p,p≠n1->Ar p h2=Ar p h1:=fun p hp=>by rw [eh2,Ah _ _ hp.symm]
   have step3:∀ κ:S->Heap->K4->R,AG (OS (.ptr n 0) (kT px off tn it L) h1 n1) κ=AG (AZ 1 16 L (.sl n1 0 1 1 true 1) h2 n2 fun zx h n=>w3 (kT px off tn it L) zx fun t=>nR t h n) κ:=fun κ=>by
    unfold OS
    show AG (A7 1 (.ptr n 0) _) κ=_
    rw [Iz]
    show AG (Aa (.ptr n (0+1)) h1 _) κ=_
    rw [KQ g1 (v:=.str m c) rfl]
    rw [Pm,Pe hx2,←eh2]
   have step4:H6 (.ptr it 0) (kT px off tn it L) h n=AG (AZ 1 16 L (.sl n1 0 1 1 true 1) h2 n2 fun zx h n=>w3 (kT px off tn it L) zx fun t=>nR t h n) fun t h n=>nR t h n:=by
    rw [step2]
    exact step3 _
   rcases hl with ⟨h0,hL⟩ | ⟨h0,q,prev,hL,hq',hq0,hqn,hqi,hpr⟩
   ·subst h0 hL
    refine ⟨_,.sl n2 0 1 1 false 1,n3,by rw [step4,Q2 hx3 g2]; rfl,by omega,by omega,fun p hp=>?_,?_⟩
    ·have:p.toN<n.toN:=by rcases hp with hp | rfl <;> omega
     rw [Ah _ _ (ne_of_lt (by omega:p.toN<n2.toN)).symm,g2' p (ne_of_lt (by omega)),g1' p (ne_of_lt this)]
    ·rw [hcon]
     refine .inr ⟨by simp,n2,none,by simp,by rw [Am]; simp [hv],by omega,by omega,fun e=>by rw [e] at hn2; omega,fun r hr=>by cases hr⟩
   ·subst hL
    have gq:Ar q h2=some (.c (.l (ss.map vS)) false prev):=by rw [g2' q (ne_of_lt (by omega)),g1' q (ne_of_lt hqn)]; exact hq'
    have hk:∀ p r,prev=some r->p≠r->Ar p (Ck prev h2)=Ar p h2:=fun p r e hne=>by rw [e]; exact Ah _ _ hne.symm
    have hk0:prev=none->Ck prev h2=h2:=fun e=>by rw [e]; rfl
    have hkk:∀ p,(p.toN<n0.toN∨p=it)->Ar p (Ck prev h2)=Ar p h2:=fun p hp=>by
     cases hprev:prev with
     | none=>rfl
     | some r =>
      obtain ⟨r1,r2,r3⟩:=hpr r hprev
      refine Ah _ _ ?_
      rcases hp with hp | rfl
      ·exact (ne_of_lt (by omega)).symm
      ·exact r2
    refine ⟨_,.sl n2 0 ((ss.map vS).length+1) ((ss.map vS).length+1) false 1,n3,by rw [step4,Tq hx3 g2 gq (by rw [List.length_map]; exact hss)]; rfl,by omega,by omega,fun p hp=>?_,?_⟩
    ·have:p.toN<n.toN:=by rcases hp with hp | rfl <;> omega
     have hpq:q≠p:=by
      rcases hp with hp | rfl
      ·exact (ne_of_lt (by omega)).symm
      ·exact hqi
     rw [Ah _ _ (ne_of_lt (by omega:p.toN<n2.toN)).symm,Ah _ _ hpq,hkk p hp,g2' p (ne_of_lt (by omega)),g1' p (ne_of_lt this)]
    ·rw [hcon]
     refine .inr ⟨by simp,n2,some q,by simp,by rw [Am]; simp [hv],by omega,by omega,fun e=>by rw [e] at hn2; omega,fun r hr=>?_⟩
     cases hr
     exact ⟨hq0,hqi,ne_of_lt (by omega)⟩
theorem Si (hm:Ar pm hs=some (.m es bs clk)) (hx:Ar px hs=some (.c (.l xs0) sup0 prev0)) (hxo:xs0[off]? = some (.map pm)) (hlen:es.length=bs.length) (hnd:bs.Nodup) (hlt:Hm clk bs=true) (hS:∀ e∈es,CT e) (hC:∀ e∈es,Ra tn es e)
  (hpm:pm.toN<n0.toN) (hpx:px.toN<n0.toN) (hi0:n0.toN≤it.toN) {N:Nat} (hN:N≤65535) {all:List (List UInt8)} (hbig:es.length≤1000000) :
  ∀ (j k:Nat) (left:List ((V×V)×Nat)) (L:V) (h:Heap) (n:K4) (seen:List Nat) (ss:List (List UInt8)),left.length=j->j<k->(∀ p,p.toN<n0.toN->Ar p h=Ar p hs)->Ar it h=some (.it pm clk seen clk)->it.toN<n.toN->Vn n0 h n it ss L →
   n.toN+3*j≤N->ss.length+j≤es.length->(left.map (·.2)).Nodup->(∀ y∈left,Dd y.2 seen=false∧y.2∈bs)->(∀ (i:Nat) e b,es[i]? = some e->bs[i]? = some b->Dd b seen=false->(e,b)∈left)->(ss++left.flatMap fun y=>CN tn es y.1).Perm all →
   (E2 JY k (kT px off tn it L) h n).sat fun r=>∃ L' h' n' ss',r = .ok (.exit 0) (kT px off tn it L') h' n'∧(∀ p,p.toN<n0.toN->Ar p h'=Ar p hs)∧Vn n0 h' n' it ss' L'∧n'.toN≤N∧ss'.Perm all:=by
 intro j
 induction j with
 | zero =>
  intro k left L h n seen ss hlj hk hold hit hin hl hnN hsl hI1 hI2 hI3 hI5
  obtain ⟨k,rfl⟩:∃ k',k=k'+1:=⟨k - 1,by omega⟩
  obtain rfl:=List.eq_nil_of_length_eq_zero hlj
  rw [Ch]
  show R.sat _ (SF (JY (kT px off tn it L) h n) (E2 JY k))
  apply JM
  show R.sat _ (Ge (.ptr it 0) h n fun z8 h n=>Ap 0 z8 fun z9=>Aq z9 (Ac 1 (H6 (.ptr it 0) (kT px off tn it L) h n) fun t h n=>nR t h n)<|.ok (.exit 0) (kT px off tn it L) h n)
  unfold Ge
  show R.sat _ (Rw it h _ _)
  rw [Jp hit]
  show R.sat _ (KD pm h _)
  rw [FN (by rw [hold pm hpm]; exact hm),hlt,AD,show Nat.ble clk clk=true from Ao.2 (Nat.le_refl _),AD]
  refine FX hlen (fun _=>?_) fun i e b he hb hn=>by have:=hI3 i e b he hb hn; simp at this
  refine ⟨L,h,n,ss,rfl,hold,hl,by omega,?_⟩
  simpa using hI5
 | succ j ih =>
  intro k left L h n seen ss hlj hk hold hit hin hl hnN hsl hI1 hI2 hI3 hI5
  obtain ⟨k,rfl⟩:∃ k',k=k'+1:=⟨k - 1,by omega⟩
  rw [Ch]
  show R.sat _ (SF (JY (kT px off tn it L) h n) (E2 JY k))
  apply JM
  show R.sat _ (Ge (.ptr it 0) h n fun z8 h n=>Ap 0 z8 fun z9=>Aq z9 (Ac 1 (H6 (.ptr it 0) (kT px off tn it L) h n) fun t h n=>nR t h n)<|.ok (.exit 0) (kT px off tn it L) h n)
  unfold Ge
  show R.sat _ (Rw it h _ _)
  rw [Jp hit]
  show R.sat _ (KD pm h _)
  rw [FN (by rw [hold pm hpm]; exact hm),hlt,AD,show Nat.ble clk clk=true from Ao.2 (Nat.le_refl _),AD]
  refine FX hlen (fun hall=>?_) fun i e b he hb hn=>?_
  ·exfalso
   cases left with
   | nil=>simp at hlj
   | cons y left =>
    obtain ⟨h1,h2⟩:=hI2 y (List.mem_cons_self ..)
    rw [hall _ h2] at h1; cases h1
  ·have hmem:=hI3 i e b he hb hn
   obtain ⟨l1,l2,rfl⟩:=List.append_of_mem hmem
   have hee:e∈es:=List.mem_of_getElem? he
   unfold Rt
   rw [Dt]
   obtain ⟨h1,eh1⟩:∃ h1,h1=AJ it h (some (.it pm clk (b::seen) clk)):=⟨_,rfl⟩
   rw [←eh1]
   have g1:Ar it h1=some (.it pm clk (b::seen) clk):=by rw [eh1,Am]
   have g1':∀ p,p≠it->Ar p h1=Ar p h:=fun p hp=>by rw [eh1,Ah _ _ hp.symm]
   have hold1:∀ p,p.toN<n0.toN->Ar p h1=Ar p hs:=fun p hp=>by rw [g1' p (ne_of_lt (by omega)),hold p hp]
   have hl1:Vn n0 h1 n it ss L:=by
    rcases hl with hl | ⟨h0,q,prev,hL,hq',hq0,hqn,hqi,hpr⟩
    ·exact .inl hl
    ·exact .inr ⟨h0,q,prev,hL,by rw [g1' q hqi]; exact hq',hq0,hqn,hqi,hpr⟩
   obtain ⟨h',L',n',hR,hn1,hn2,hfr,hl'⟩:=QT (n:=n) (L:=L) (ss:=ss) (e:=e) g1 (by rw [hold1 pm hpm]; exact hm) (by rw [hold1 px hpx]; exact hx) hxo he hb hnd hS (hC e hee) hpm hpx hi0 hin hl1 (by omega) (by omega)
   obtain ⟨ek,ex⟩:=e
   show R.sat _ (Ac 1 (H6 (.ptr it 0) (kT px off tn it L) h1 n) fun t h n=>nR t h n)
   rw [hR]
   show R.sat _ (E2 JY k (kT px off tn it L') h' n')
   have hcl:(CN tn es (ek,ex)).length≤1:=by
    unfold CN
    split
    ·split
     ·split <;> simp
     ·simp
    ·simp
   have hI1':(l1.map (·.2)++b::l2.map (·.2)).Nodup:=by simpa using hI1
   have hI1'':b ∉ l1.map (·.2)∧b ∉ l2.map (·.2)∧(l1.map (·.2)++l2.map (·.2)).Nodup:=by
    have hp:(b::(l1.map (·.2)++l2.map (·.2))).Nodup:=(List.perm_middle.nodup_iff).1 hI1'
    obtain ⟨q1,q2⟩:=List.nodup_cons.1 hp
    exact ⟨fun h=>q1 (List.mem_append_left _ h),fun h=>q1 (List.mem_append_right _ h),q2⟩
   refine ih k (l1++l2) L' h' n' (b::seen) (ss++CN tn es (ek,ex)) (by simp at hlj ⊢; omega) (by omega) (fun p hp=>by rw [hfr p (.inl hp),hold1 p hp]) (by rw [hfr it (.inr rfl)]; exact g1) (by omega) hl' (by omega) (by rw [List.length_append]; omega) (by simpa using hI1''.2.2)
    (fun y hy=>?_) (fun i' e' b' he' hb' hn'=>?_) ?_
   ·have hy':y∈l1++((ek,ex),b)::l2:=by
     rcases List.mem_append.1 hy with h | h
     ·exact List.mem_append_left _ h
     ·exact List.mem_append_right _ (List.mem_cons_of_mem _ h)
    obtain ⟨y1,y2⟩:=hI2 y hy'
    refine ⟨?_,y2⟩
    show br (Nat.beq b y.2) true (Dd y.2 seen)=false
    have hne:b≠y.2:=fun e=>by
     rcases List.mem_append.1 hy with h | h
     ·exact hI1''.1 (List.mem_map.2 ⟨y,h,e.symm⟩)
     ·exact hI1''.2.1 (List.mem_map.2 ⟨y,h,e.symm⟩)
    have:Nat.beq b y.2=false:=by
     cases hx:Nat.beq b y.2 with
     | false=>rfl
     | true=>exact absurd (Nat.eq_of_beq_eq_true hx) hne
    rw [this]; exact y1
   ·have hn':br (Nat.beq b b') true (Dd b' seen)=false:=hn'
    cases hx:Nat.beq b b' with
    | true=>rw [hx] at hn'; cases hn'
    | false =>
     rw [hx] at hn'
     have:=hI3 i' e' b' he' hb' hn'
     rcases List.mem_append.1 this with h | h
     ·exact List.mem_append_left _ h
     ·rcases List.mem_cons.1 h with h | h
      ·cases h; rw [Nat.beq_refl] at hx; cases hx
      ·exact List.mem_append_right _ h
   ·refine List.Perm.trans ?_ hI5
    rw [List.flatMap_append,List.flatMap_append,List.flatMap_cons,List.append_assoc]
    refine List.Perm.append_left _ ?_
    rw [←List.append_assoc,←List.append_assoc]
    exact List.Perm.append_right _ List.perm_append_comm
end
theorem Sh {h:Heap} {n q:K4} {ss:List (List UInt8)} {prev:Option K4} (h0:ss≠[]) (hq:Ar q h=some (.c (.l (ss.map vS)) false prev)) (hbig:ss.length≤1000000) :
  Gy [.sl q 0 (ss.map vS).length (ss.map vS).length false 1] h n = .rv (.tup []) (AJ q (Ck prev h) (some (.c (.l ((E7 ss).map vS)) false none))) n:=by
 have hne:Nat.beq (ss.map vS).length 0=false:=by
  cases ss with
  | nil=>exact absurd rfl h0
  | cons s ss=>rfl
 show br (Nat.beq (ss.map vS).length 0) _ (br (Nat.ble (ss.map vS).length 1000000) (HH q h _) _)=_
 rw [hne,show Nat.ble (ss.map vS).length 1000000=true from Ao.2 (by rw [List.length_map]; exact hbig)]
 show HH q h _=_
 rw [GA hq,EX]
 show L8 (ss.map vS) _=_
 rw [IN,Dl]
 have hl:(((E7 ss).map vS)).length=(ss.map vS).length:=by rw [List.length_map,List.length_map,(DE ss).length_eq]
 unfold Dq
 rw [GZ hq]
 rw [AR,LF hl,Es,Bm]
theorem Et (T:FC) (m:Nat) (k:K3) (args:List V) (h:Heap) (n:K4):Bw T (m+1) k args h n=SN (Bw T m) (DP k T) args h n:=RS k T fun o=>SN (Bw T m) o args h n
section
variable {hs:Heap} {n0 px pm:K4} {off tn clk:Nat} {es:List (V×V)} {bs:List Nat} {xs0:List V} {sup0:Bool} {prev0:Option K4}
theorem SZ {T:FC} {f:FuncId} {ks:K3} {m:Nat} (hf:DP (B2 f) T=some (Wt ks)) (hks:DP ks T=some (.prim Gy)) (hm:Ar pm hs=some (.m es bs clk)) (hx:Ar px hs=some (.c (.l xs0) sup0 prev0)) (hxo:xs0[off]? = some (.map pm)) (hlen:es.length=bs.length) (hnd:bs.Nodup) (hlt:Hm clk bs=true) (hS:∀ e∈es,CT e) (hC:∀ e∈es,Ra tn es e)
  (hpm:pm.toN<n0.toN) (hpx:px.toN<n0.toN) {N:Nat} (hN:N≤65535) (hn:n0.toN+1+3*es.length≤N) (hbig:es.length≤1000000) :
  (Bw T (m+2) (B2 f) [.ptr px off,.int .u32 tn] hs n0).sat fun r=>∃ v h' n',r = .rv v h' n'∧(∀ p,p.toN<n0.toN->Ar p h'=Ar p hs)∧n'.toN≤N ∧
   ((es.flatMap (CN tn es)=[]∧v = .nil .sl)∨(es.flatMap (CN tn es)≠[] ∧ ∃ q,v = .sl q 0 (es.flatMap (CN tn es)).length (es.flatMap (CN tn es)).length false 1∧Ar q h'=some (.c (.l ((E7 (es.flatMap (CN tn es))).map vS)) false none)∧n0.toN≤q.toN)):=by
 obtain ⟨n1,hn1,hx1⟩:=K4.nx_u n0 (by omega)
 rw [Et,hf]
 apply Ht
 show R.sat _ (A7 0 (.ptr px off) _)
 rw [Iz]
 show R.sat _ (Aa (.ptr px off) hs _)
 rw [KQ hx (v:=.map pm) hxo]
 show R.sat _ (KD pm hs _)
 rw [FN hm]
 show R.sat _ (Gg hs n0 (.it pm clk [] clk) _)
 rw [Fp hx1]
 obtain ⟨h1,eh1⟩:∃ h1,h1=AJ n0 hs (some (.it pm clk [] clk)):=⟨_,rfl⟩
 rw [←eh1]
 have g1':∀ p,p.toN<n0.toN->Ar p h1=Ar p hs:=fun p hp=>by rw [eh1,Ah _ _ (ne_of_lt hp).symm]
 show R.sat _ (Ac 0 (E2 JY 1000000000 (kT px off tn n0 (.nil .sl)) h1 n1) _)
 apply HJ
 have key:=Si (n0:=n0) (it:=n0) (N:=N) (all:=es.flatMap (CN tn es)) hm hx hxo hlen hnd hlt hS hC hpm hpx (Nat.le_refl _) hN hbig es.length 1000000000 (es.zip bs) (.nil .sl) h1 n1 [] [] (by rw [List.length_zip]; omega) (by omega) g1' (by rw [eh1,Am]) (by omega) (.inl ⟨rfl,rfl⟩) (by omega) (by simp)
  (by rw [List.map_snd_zip (by omega)]; exact hnd) (fun y hy=>⟨rfl,(List.of_mem_zip hy).2⟩) (fun i e b he hb _=>List.mem_of_getElem? (List.getElem?_zip_eq_some.2 ⟨he,hb⟩)) (by
   have e1:=K0 (CN tn es) es bs (by omega)
   rw [List.nil_append,e1])
 refine R.sat_mono ?_ key
 rintro r ⟨L',h',n',ss',rfl,hold,hl,hn',hperm⟩
 show R.sat _ (A6 (Bw T (m+1) ks [L'] h' n') _)
 rw [Et,hks]
 rcases hl with ⟨h0,hL⟩ | ⟨h0,q,prev,hL,hq,hq0,hqn,hqi,hpr⟩
 ·subst h0 hL
  exact ⟨.nil .sl,h',n',rfl,hold,hn',.inl ⟨List.perm_nil.1 hperm.symm,rfl⟩⟩
 ·subst hL
  have hlen':ss'.length=(es.flatMap (CN tn es)).length:=hperm.length_eq
  have hcl:∀ e,(CN tn es e).length≤1:=fun e=>by
   unfold CN
   split
   ·split
    ·split <;> simp
    ·simp
   ·simp
  have hle:(es.flatMap (CN tn es)).length≤es.length:=by
   have:∀ l:List (V×V),(l.flatMap (CN tn es)).length≤l.length:=fun l=>by
    induction l with
    | nil=>simp
    | cons e l ih =>
     rw [List.flatMap_cons,List.length_append,List.length_cons]
     have:=hcl e
     omega
   exact this es
  show R.sat _ (A6 (L9 (Gy [.sl q 0 (ss'.map vS).length (ss'.map vS).length false 1] h' n')) _)
  rw [Sh h0 hq (by omega)]
  refine ⟨.sl q 0 (ss'.map vS).length (ss'.map vS).length false 1,_,n',rfl,fun p hp=>?_,hn',.inr ⟨fun e=>h0 (by rw [e] at hperm; exact List.perm_nil.1 hperm),q,by rw [List.length_map,hlen'],by rw [Am,Mb hperm],hq0⟩⟩
  rw [Ah _ _ (ne_of_lt (by omega:p.toN<q.toN)).symm]
  cases hprev:prev with
  | none=>exact hold p hp
  | some r =>
   obtain ⟨r1,_,_⟩:=hpr r hprev
   show Ar p (AJ r h' none)=_
   rw [Ah _ _ (ne_of_lt (by omega:p.toN<r.toN)).symm]
   exact hold p hp
end
def KY (n:K4) (acc:List K4) (κ:R):R:=@List.rec K4 (fun _=>R) κ (fun p _ ih=>br (Ie p n) ih (.fail "")) acc
theorem H7 {n:K4}:∀ {acc:List K4} {κ:R},(KY n acc κ).good->(∀ p∈acc,p.toN<n.toN)∧KY n acc κ=κ
 | [],κ,_=>⟨fun p hp=>by simp at hp,rfl⟩
 | q::acc,κ,h=>by
  replace h:R.good (br (Ie q n) (KY n acc κ) (.fail "")):=h
  obtain ⟨h1,e1⟩:=Ak h
  rw [e1] at h
  obtain ⟨h2,e2⟩:=H7 h
  refine ⟨fun p hp=>?_,Eq.trans e1 e2⟩
  rcases List.mem_cons.1 hp with rfl | hp
  ·exact Cq.1 h1
  ·exact h2 p hp
def Vd (cs:Cs) (κ:List V->R):R:=@Cs.rec (fun _=>R) κ (AT "") cs
theorem GT {cs:Cs} {κ:List V->R} (h:(Vd cs κ).good):∃ xs,cs = .l xs∧Vd cs κ=κ xs:=by
 cases cs with
 | l xs=>exact ⟨xs,rfl,rfl⟩
 | b _ _=>exact h.elim
def YP (hs:Heap) (n M:K4) (ys:List V):R :=
 @List.rec V (fun _=>R) (.rv (.nil .sl) hs M) (fun _ _ _=>G4 ys fun k=>Bx n hs (some (.c (.l ys) false none)) fun hf=>.rv (.sl n 0 k k false 1) hf M) ys
def U1 (n:K4) (args:List V) (hs:Heap) (acc:List K4):R :=
 Da args fun x l=>Da l fun y l=>GM l (Hy x fun px off=>E6 y fun kd tn=>br (Be kd .u32) (KY n acc (HH px hs fun cs _ _=>Vd cs fun xs0=>CL off xs0 fun u=>D6 u (.fail "") fun pm=>KD pm hs fun es bs clk =>
  br (Ie px n) (br (Ie pm n) (br (Hm clk bs) (br (Fe es bs) (br (QB bs) (Va es fun j=>br (Nat.ble j 1000000) (Gx es (DZ tn es es fun xs=>Aj (Nat.succ (Nat.mul 3 j)) fun j=>Xu j n fun M=>L8 xs fun ys=>YP hs n M ys)) (.fail ""))
   (.fail "")) (.fail "")) (.fail "")) (.fail "")) (.fail ""))) (.fail ""))
def Wm:Gr:=fun args h n=>Vt 400 (U1 n args) args h n
theorem Iu:∀ {es:List (V×V)} {bs:List Nat},Fe es bs=true->es.length=bs.length
 | [],[],_=>rfl
 | [],_::_,h=>by cases h
 | _::_,[],h=>by cases h
 | e::es,b::bs,h=>by rw [List.length_cons,List.length_cons,Iu (show Fe es bs=true from h)]
section
variable {P:Program} {ρ:Env} {B:Nat}
theorem VS (hρ:Bp ρ) (hmix:P.follows .mixedOrders=true) {T:FC} (hT:GI P ρ B T) {f:FuncId} {ks:K3} (hf:DP (B2 f) T=some (Wt ks)) (hks:DP ks T=some (.prim Gy)):EE P ρ B f Wm:=by
 intro args h n v h1 n1 hx φ w xs g hr
 refine Rp (hr:=hx) g ?_
 intro hs acc v1 hh1 m1 m sub hc res hOld hm1 gs
 have hg:(U1 n args hs acc).good:=Bc hc
 unfold U1 at hc hg
 obtain ⟨x,l,rfl,q1⟩:=Br hg
 rw [q1] at hc hg
 obtain ⟨y,l,rfl,q2⟩:=Br hg
 rw [q2] at hc hg
 obtain ⟨rfl,q3⟩:=Cj hg
 rw [q3] at hc hg
 obtain ⟨px,off,rfl,q4⟩:=CA hg
 rw [q4] at hc hg
 obtain ⟨kd,tn,rfl,q5⟩:=F1 hg
 rw [q5] at hc hg
 obtain ⟨hk,q6⟩:=Ak hg
 rw [q6] at hc hg
 obtain rfl:=B3.1 hk
 obtain ⟨hacc,q7⟩:=H7 hg
 rw [q7] at hc
 obtain ⟨cs,sup0,prev0,hpx,hc⟩:=Ih hc
 obtain ⟨xs0,rfl,q9⟩:=GT (Bc hc)
 rw [q9] at hc
 obtain ⟨u,hu,hc⟩:=Hw hc
 obtain ⟨pm,rfl,hc⟩:=ID hc
 obtain ⟨es,bs,clk,hpm,hc⟩:=Qx hc
 obtain ⟨l1,hc⟩:=C3 hc
 obtain ⟨l2,hc⟩:=C3 hc
 obtain ⟨l3,hc⟩:=C3 hc
 obtain ⟨l4,hc⟩:=C3 hc
 obtain ⟨l5,hc⟩:=C3 hc
 rw [O5] at hc
 obtain ⟨l6,hc⟩:=C3 hc
 have l1:=Cq.1 l1
 have l2:=Cq.1 l2
 have l4:=Iu l4
 have l5:=KT l5
 have l6:=Ao.1 l6
 obtain ⟨hS,q13⟩:=GV (Bc hc)
 rw [q13] at hc
 obtain ⟨hC,q14⟩:=GF hS hS (Bc hc)
 rw [q14,Ai] at hc
 obtain ⟨M,hM,q15⟩:=Ls (Bc hc)
 rw [q15,IN] at hc
 clear q1 q2 q3 q4 q5 q6 q7 q9 q13 q14 q15 hg
 have hM:M.toN=n.toN+(3*es.length+1):=hM
 have key:=SZ (m:=98) hf hks hpm hpx hu l4 l5 l3 hS hC l2 l1 (M.toN_max) (by omega) l6
 refine (HF hρ hmix hT 100).1 f _ hs n _ (R.sat_mono ?_ key) φ w xs gs hr
 rintro r ⟨v',h',n',rfl,hold,hn',hres⟩
 rcases hres with ⟨h0,rfl⟩ | ⟨h0,q,rfl,hq,hqn⟩
 ·rw [h0] at hc
  replace hc:R.rv (.nil .sl) hs M = .rv v1 hh1 m1:=hc
  cases hc
  exact ⟨.inl ⟨rfl,rfl⟩,fun p hp=>⟨(hold p (hacc p hp)).symm,hOld p hp⟩,by omega⟩
 ·have hc:YP hs n M ((E7 (es.flatMap (CN tn es))).map vS) = .rv v1 hh1 m1:=hc
  have hll:(E7 (es.flatMap (CN tn es))).length=(es.flatMap (CN tn es)).length:=(DE _).length_eq
  have hc:R.rv (.sl n 0 (es.flatMap (CN tn es)).length (es.flatMap (CN tn es)).length false 1) (AJ n hs (some (.c (.l ((E7 (es.flatMap (CN tn es))).map vS)) false none))) M = .rv v1 hh1 m1:=by
   rw [←hc]
   generalize hsl:E7 (es.flatMap (CN tn es))=sl at hll ⊢
   cases sl with
   | nil=>exact absurd (List.eq_nil_of_length_eq_zero hll.symm) h0
   | cons s sl =>
    show _=G4 ((s::sl).map vS) fun k=>Bx n hs (some (.c (.l ((s::sl).map vS)) false none)) fun hf=>.rv (.sl n 0 k k false 1) hf M
    rw [D1,Dt,List.length_map,hll]
  cases hc
  have hno:EN n (.sl n 0 (es.flatMap (CN tn es)).length (es.flatMap (CN tn es)).length false 1)=false:=by
   show Ie n n=false
   cases hl:Ie n n with
   | false=>rfl
   | true=>have:=Cq.1 hl; omega
  rcases res with ⟨ho,_⟩ | ⟨_,p,p',off',len',cap',ex',esz',e1,e2,hp1,hp2,hcl,hob⟩
  ·rw [hno] at ho; cases ho
  ·cases e1
   refine ⟨.inr ⟨hno,n,q,0,_,_,false,1,rfl,rfl,Nat.le_refl _,hqn,by rw [Am,hq],hob⟩,fun p hp=>⟨?_,hOld p hp⟩,by omega⟩
   rw [Ah _ _ (ne_of_lt (hacc p hp)).symm]
   exact (hold p (hacc p hp)).symm
end
end Go.Ev
