/- AN EVALUATOR OF THE MODEL OF Go, PROVED SOUND, PART 4: what it says of a call holds in every world, on every tape. Conditions: none of its own; each theorem bears its premises. -/
import Derived.Test.YtnacbbemgocmcaaGreatDoorEv3
import Derived.Shelf.Strconv.Itoa1
import GoSem.ClaimGoes
noncomputable section
set_option linter.unusedSimpArgs false
set_option linter.unusedVariables false
namespace Go.Ev
set_option linter.unusedVariables false
def plsV (v : V) : List K4 → List K4 :=
 @V.rec (fun _=>List K4 → List K4) (fun _=>List K4 → List K4)
  (fun _ _ a=>a) (fun _ a=>a) (fun p _ a=>p :: a) (fun p _ _ _ _ _ a=>p :: a) (fun _ _ a=>a) (fun _ ih a=>ih a) (fun _ a=>a) (fun p a=>p :: a) (fun _ _ ih a=>ih a) (fun _ ih a=>ih a) (fun _ a=>a)
  (fun a=>a) (fun _ _ ihx ihl a=>ihx (ihl a)) v
def plsL (l : List V) (a : List K4) : List K4:=@List.rec V (fun _=>List K4) a (fun v _ ih=>plsV v ih) l
def plsE (es : List (V × V)) (a : List K4) : List K4:=@List.rec (V × V) (fun _=>List K4) a (fun e _ ih=>@Prod.rec V V (fun _=>List K4) (fun x y=>plsV x (plsV y ih)) e) es
def plsO (o : Ob) (a : List K4) : List K4 :=
 @Ob.rec (fun _=>List K4) (fun cs _ _=>@Cs.rec (fun _=>List K4) (fun xs=>plsL xs a) (fun _ _=>a) cs) (fun es _ _=>plsE es a) (fun _ _ _ _=>a) a (fun _ _=>a) o
def goodOb (o : Ob) : Bool:=@Ob.rec (fun _=>Bool) (fun _ sup _=>@Bool.rec (fun _=>Bool) true false sup) (fun _ _ _=>true) (fun _ _ _ _=>false) false (fun _ _=>false) o
def clrP (o : Ob) : Ob:=@Ob.rec (fun _=>Ob) (fun cs sup _=>.c cs sup none) (fun es bs c=>.m es bs c) (fun p s l c=>.it p s l c) .it0 (fun f b=>.lp f b) o
theorem clrP_prev (o : Ob) : prevOf (clrP o) = none:=by cases o <;> rfl
theorem clrP_ok {ρ : Env} {φ : Emb} {w : World} {o : Ob} {b s tot : Nat} (h : ObOK ρ φ w o b s tot) : ObOK ρ φ w (clrP o) b s tot:=by cases o <;> exact h
def reachK (h : Heap) (k : Nat) : List K4 → Heap → List K4 → (Heap → List K4 → R) → R :=
 @Nat.rec (fun _=>List K4 → Heap → List K4 → (Heap → List K4 → R) → R) (fun _ hs acc κ=>κ hs acc)
  (fun _ ih todo hs acc κ=>@List.rec K4 (fun _=>R) (κ hs acc) (fun p todo _=>hgetR p hs fun o=>@Option.rec Ob (fun _=>R)
   (hgetR p h fun o=>@Option.rec Ob (fun _=>R) (ih todo hs acc κ) (fun ob=>br (goodOb ob) (hputR p hs (some (clrP ob)) fun hs=>ih (plsO ob todo) hs (p :: acc) κ) (ih todo hs acc κ)) o)
   (fun _=>ih todo hs acc κ) o) todo) k
def ltK (p n : K4) : Bool:=Nat.ble (Nat.succ p.toN) n.toN
def oldV (n : K4) (v : V) : Bool :=
 @V.rec (fun _=>Bool) (fun _=>Bool)
  (fun _ _=>true) (fun _=>true) (fun p _=>ltK p n) (fun p _ _ _ _ _=>ltK p n) (fun _ _=>true) (fun _ ih=>ih) (fun _=>true) (fun p=>ltK p n) (fun _ _ ih=>ih) (fun _ ih=>ih) (fun o=>@Ot.rec (fun _=>Bool) true (fun _=>true) (fun p=>ltK p n) false (fun _ _ _=>true) (fun _ _=>true) true (fun _ _=>true) (fun _ _ _ _=>true) (fun _ _ _ _=>true) (fun _ _ _=>true) (fun _ _=>true) o)
  true (fun _ _ ihx ihl=>br ihx ihl false) v
def oldL (n : K4) (l : List V) : Bool:=oldV n (.tup l)
def noneK (p : Option K4) (κ : R) : R:=@Option.rec K4 (fun _=>R) κ (fF1 "memory that may be shared") p
def sameCs (n : K4) (a b : Cs) (κ : R) : R :=
 @Cs.rec (fun _=>R) (fun xs=>@Cs.rec (fun _=>R) (fun ys=>br (oldL n xs) (sameV (.tup xs) (.tup ys) κ) (.fail "a new place")) (fF2 "unlike") b)
  (fun m c=>@Cs.rec (fun _=>R) (fF1 "unlike") (fun m' c'=>br (Nat.beq m m') (br (Nat.beq c c') κ (.fail "unlike")) (.fail "unlike")) b) a
def sameEs (n : K4) (a : List (V × V)) : List (V × V) → R → R :=
 @List.rec (V × V) (fun _=>List (V × V) → R → R) (fun b κ=>@List.rec (V × V) (fun _=>R) κ (fF3 "unlike") b)
  (fun e _ ih b κ=>@List.rec (V × V) (fun _=>R) (.fail "unlike") (fun e' b _=>@Prod.rec V V (fun _=>R) (fun x y=>@Prod.rec V V (fun _=>R) (fun x' y'=>br (oldV n x) (br (oldV n y) (sameV x x' (sameV y y' (ih b κ))) (.fail "a new place")) (.fail "a new place")) e') e) b) a
def sameNs (a : List Nat) : List Nat → R → R :=
 @List.rec Nat (fun _=>List Nat → R → R) (fun b κ=>@List.rec Nat (fun _=>R) κ (fF3 "unlike") b)
  (fun x _ ih b κ=>@List.rec Nat (fun _=>R) (.fail "unlike") (fun y b _=>br (Nat.beq x y) (ih b κ) (.fail "unlike")) b) a
def sameO (n : K4) (a b : Ob) (κ : R) : R :=
 @Ob.rec (fun _=>R) (fun cs sup prev=>br sup (.fail "memory that may be shared") (noneK prev (@Ob.rec (fun _=>R) (fun cs' sup' prev'=>br sup' (.fail "memory that may be shared") (noneK prev' (sameCs n cs cs' κ))) (fF3 "unlike") (fF4 "unlike") (.fail "unlike") (fF2 "unlike") b)))
  (fun es bs c=>@Ob.rec (fun _=>R) (fF3 "unlike") (fun es' bs' c'=>br (Nat.beq c c') (sameNs bs bs' (sameEs n es es' κ)) (.fail "unlike")) (fF4 "unlike") (.fail "unlike") (fF2 "unlike") b) (fF4 "iterator") (.fail "iterator") (fF2 "record") a
def sameOO (n : K4) (a b : OOb) (κ : R) : R :=
 @Option.rec Ob (fun _=>R) (@Option.rec Ob (fun _=>R) κ (fF1 "unlike") b) (fun x=>@Option.rec Ob (fun _=>R) (.fail "unlike") (fun y=>sameO n x y κ) b) a
def sameAll (n : K4) (h1 h' : Heap) (acc : List K4) (κ : R) : R :=
 @List.rec K4 (fun _=>R) κ (fun p _ ih=>hgetR p h1 fun a=>hgetR p h' fun b=>sameOO n a b ih) acc
def clnP (n : K4) (p : Option K4) : Option K4:=@Option.rec K4 (fun _=>Option K4) none (fun q=>@Bool.rec (fun _=>Option K4) none (some q) (ltK q n)) p
def clnO (n : K4) (o : OOb) : OOb:=@Option.rec Ob (fun _=>OOb) none (fun o=>some (@Ob.rec (fun _=>Ob) (fun cs sup prev=>.c cs sup (clnP n prev)) (fun es bs c=>.m es bs c) (fun p s l c=>.it p s l c) .it0 (fun f b=>.lp f b) o)) o
def sameRes (n : K4) (v1 : V) (h1 : Heap) (v' : V) (h' : Heap) (κ : R) : R :=
 br (oldV n v1) (sameV v1 v' κ) (asSl v1 (.fail "a result") fun p off len cap ex esz=>asSl v' (.fail "a result") fun p' off' len' cap' ex' esz' =>
  br (ltK p n) (.fail "a result") (br (ltK p' n) (.fail "a result") (sameV (.sl p off len cap ex esz) (.sl p off' len' cap' ex' esz') (hgetR p h1 fun a=>hgetR p' h' fun b=>sameOO n (clnO n a) (clnO n b) κ))))
def firstK (r : R) : (V → Heap → R) → R :=
 @R.rec (fun _=>(V → Heap → R) → R) (fF5 "a way") (fun v h _ κ=>κ v h) (fun w _=>.fail w) (fun _ _ iha _ κ=>iha κ) r
def maxK (a b : K4) (κ : K4 → R) : R:=br (Nat.ble a.toN b.toN) (κ b) (κ a)
def allK (n : K4) (v1 : V) (h1 : Heap) (acc : List K4) (r : R) : K4 → (K4 → R) → R :=
 @R.rec (fun _=>K4 → (K4 → R) → R) (fF6 "a way") (fun v h m mx κ=>sameRes n v1 h1 v h (sameAll n h1 h acc (maxK m mx κ))) (fun w _ _=>.fail w) (fun _ _ iha ihb mx κ=>iha mx fun mx=>ihb mx κ) r
def killO (o : Ob) (h : Heap) (κ : Heap → R) : R:=@Ob.rec (fun _=>R) (fun _ _ prev=>@Option.rec K4 (fun _=>R) (κ h) (fun q=>hputR q h none κ) prev) (fun _ _ _=>κ h) (fun _ _ _ _=>κ h) (κ h) (fun _ _=>κ h) o
def putsK (h h1 : Heap) (acc : List K4) : (Heap → R) → R :=
 @List.rec K4 (fun _=>(Heap → R) → R) (fun κ=>κ h)
  (fun p _ ih κ=>ih fun hf=>hgetR p h fun o=>@Option.rec Ob (fun _=>R) (.fail "an object") (fun o=>killO o hf fun hf=>hgetR p h1 fun o1=>hputR p hf o1 κ) o) acc
def resR (n : K4) (v1 : V) (h1 hf : Heap) (m : K4) : R :=
 br (oldV n v1) (.rv v1 hf m) (asSl v1 (.fail "a result") fun p off len cap ex esz=>hgetR p h1 fun o=>@Option.rec Ob (fun _=>R) (.fail "a result") (fun ob=>hputR m hf (some ob) fun hf=>m.nx fun m'=>.rv (.sl m off len cap ex esz) hf m') (clnO n o))
def finK (n : K4) (h : Heap) (acc : List K4) (r : R) : R :=
 firstK r fun v1 h1=>allK n v1 h1 acc r n fun m=>putsK h h1 acc fun hf=>resR n v1 h1 hf m
def brK (k : Nat) (run : Heap → R) (args : List V) (h : Heap) (n : K4) : R :=
 reachK h k (plsL args []) hempty [] fun hs acc=>finK n h acc (run hs)
section
variable {P : Program} {ρ : Env} {B : Nat}
structure Sub (h hs : Heap) (acc : List K4) : Prop where
 sub : ∀ p o,hget p hs = some o → ∃ o0,hget p h = some o0 ∧ o = clrP o0 ∧ goodOb o0 = true ∧ p ∈ acc
 has : ∀ p,p ∈ acc → ∃ o,hget p hs = some o
theorem Sub.mem {h hs : Heap} {acc : List K4} (s : Sub h hs acc) {p : K4} {o : Ob} (hp : hget p hs = some o) : p ∈ acc:=by
 obtain ⟨_,_,_,_,m⟩:=s.sub p o hp; exact m
theorem Sub.in_h {h hs : Heap} {acc : List K4} (s : Sub h hs acc) {p : K4} {o : Ob} (hp : hget p hs = some o) : ∃ o0,hget p h = some o0:=by
 obtain ⟨o0,e,_⟩:=s.sub p o hp; exact ⟨o0,e⟩
theorem reachK_ok {h : Heap} : ∀ (k : Nat) {todo : List K4} {hs : Heap} {acc : List K4} {κ : Heap → List K4 → R},Sub h hs acc → ∃ hs' acc',Sub h hs' acc' ∧ reachK h k todo hs acc κ = κ hs' acc'
 | 0,todo,hs,acc,κ,s=>⟨hs,acc,s,rfl⟩
 | k + 1,[],hs,acc,κ,s=>⟨hs,acc,s,rfl⟩
 | k + 1,p :: todo,hs,acc,κ,s=>by
  have e : reachK h (k + 1) (p :: todo) hs acc κ = hgetR p hs fun o=>@Option.rec Ob (fun _=>R)
   (hgetR p h fun o=>@Option.rec Ob (fun _=>R) (reachK h k todo hs acc κ) (fun ob=>br (goodOb ob) (hputR p hs (some (clrP ob)) fun hs=>reachK h k (plsO ob todo) hs (p :: acc) κ) (reachK h k todo hs acc κ)) o)
   (fun _=>reachK h k todo hs acc κ) o:=rfl
  rw [e,hgetR_eq]
  cases h1 : hget p hs with
  | some o=>exact reachK_ok k s
  | none =>
   show ∃ hs' acc',Sub h hs' acc' ∧ (hgetR p h fun o=>@Option.rec Ob (fun _=>R) (reachK h k todo hs acc κ) (fun ob=>br (goodOb ob) (hputR p hs (some (clrP ob)) fun hs=>reachK h k (plsO ob todo) hs (p :: acc) κ) (reachK h k todo hs acc κ)) o) = κ hs' acc'
   rw [hgetR_eq]
   cases h2 : hget p h with
   | none=>exact reachK_ok k s
   | some ob =>
    show ∃ hs' acc',Sub h hs' acc' ∧ br (goodOb ob) (hputR p hs (some (clrP ob)) fun hs=>reachK h k (plsO ob todo) hs (p :: acc) κ) (reachK h k todo hs acc κ) = κ hs' acc'
    cases h3 : goodOb ob with
    | false=>exact reachK_ok k s
    | true =>
     show ∃ hs' acc',Sub h hs' acc' ∧ (hputR p hs (some (clrP ob)) fun hs=>reachK h k (plsO ob todo) hs (p :: acc) κ) = κ hs' acc'
     rw [hputR_eq,hput_eq]
     refine reachK_ok k ⟨fun q o hq=>?_,fun q hq=>?_⟩
     ·rcases hget_inv hq with ⟨rfl,e⟩ | ⟨hne,hq⟩
      ·cases e; exact ⟨ob,h2,rfl,h3,List.mem_cons_self ..⟩
      ·obtain ⟨o0,a,e,b,c⟩:=s.sub q o hq; exact ⟨o0,a,e,b,List.mem_cons_of_mem _ c⟩
     ·by_cases e : p = q
      ·subst e; exact ⟨clrP ob,hget_hputS_same _ _ _⟩
      ·rw [hget_hputS_ne _ _ e]
       rcases List.mem_cons.1 hq with e' | hq
       ·exact absurd e'.symm e
       ·exact s.has q hq
theorem Sub.nil {h : Heap} : Sub h hempty []:=⟨fun p o hp=>(by rw [hget_hempty] at hp; cases hp),fun p hp=>(by simp at hp)⟩
theorem ltK_iff {p n : K4} : ltK p n = true ↔ p.toN < n.toN:=by unfold ltK; rw [ble_iff]; omega
mutual
theorem rel_agree {n : K4} {φ1 φ2 : Emb} (hφ : ∀ p x,p.toN < n.toN → φ1 p = some x → φ2 p = some x) : ∀ {v : V} {x : Value},oldV n v = true → rel ρ φ1 v x → rel ρ φ2 v x
 | .int _ _,_,_,r=>by simpa only [rel] using r
 | .bool _,_,_,r=>by simpa only [rel] using r
 | .ptr p _,_,ho,r=>by
  have ho : ltK p n = true:=ho
  simp only [rel] at r ⊢
  obtain ⟨b,s,tot,hp,e⟩:=r
  exact ⟨b,s,tot,hφ _ _ (ltK_iff.1 ho) hp,e⟩
 | .sl p _ _ _ _ _,_,ho,r=>by
  have ho : ltK p n = true:=ho
  simp only [rel] at r ⊢
  obtain ⟨b,s,tot,o,c,hp,e⟩:=r
  exact ⟨b,s,tot,o,c,hφ _ _ (ltK_iff.1 ho) hp,e⟩
 | .str _ _,_,_,r=>by simpa only [rel] using r
 | .agg l,_,ho,r=>by
  have ho : oldL n l = true:=ho
  simp only [rel] at r ⊢
  obtain ⟨cs,e,hl,hh⟩:=r
  exact ⟨cs,e,rels_agree hφ ho hl,hh⟩
 | .nil _,_,_,r=>by simpa only [rel] using r
 | .map p,_,ho,r=>by
  have ho : ltK p n = true:=ho
  simp only [rel] at r ⊢
  obtain ⟨b,s,tot,hp,e⟩:=r
  exact ⟨b,s,tot,hφ _ _ (ltK_iff.1 ho) hp,e⟩
 | .fn _ l,_,ho,r=>by
  have ho : oldL n l = true:=ho
  simp only [rel] at r ⊢
  obtain ⟨cs,e,hl⟩:=r
  exact ⟨cs,e,rels_agree hφ ho hl⟩
 | .tup l,_,ho,r=>by
  have ho : oldL n l = true:=ho
  simp only [rel] at r ⊢
  obtain ⟨cs,e,hl⟩:=r
  exact ⟨cs,e,rels_agree hφ ho hl⟩
 | .oth o,_,ho,r=>by
  cases o with
  | yl p =>
   have ho : ltK p n = true:=ho
   simp only [rel] at r ⊢
   obtain ⟨b,s,tot,hp,e⟩:=r
   exact ⟨b,s,tot,hφ _ _ (ltK_iff.1 ho) hp,e⟩
  | _=>simp only [rel] at r ⊢ <;> exact r
theorem rels_agree {n : K4} {φ1 φ2 : Emb} (hφ : ∀ p x,p.toN < n.toN → φ1 p = some x → φ2 p = some x) : ∀ {l : List V} {xs : List Value},oldL n l = true → rels ρ φ1 l xs → rels ρ φ2 l xs
 | [],_,_,r=>by simpa only [rels] using r
 | v :: l,_,ho,r=>by
  have ho : br (oldV n v) (oldL n l) false = true:=ho
  simp only [rels] at r ⊢
  obtain ⟨y,ys,e,hy,hys⟩:=r
  cases h1 : oldV n v with
  | false=>rw [h1] at ho; cases ho
  | true =>
   rw [h1] at ho
   exact ⟨y,ys,e,rel_agree hφ h1 hy,rels_agree hφ ho hys⟩
end
theorem oldL_mem {n : K4} : ∀ {l : List V},oldL n l = true → ∀ v ∈ l,oldV n v = true
 | [],_,v,hv=>by simp at hv
 | x :: l,ho,v,hv=>by
  have ho : br (oldV n x) (oldL n l) false = true:=ho
  cases h1 : oldV n x with
  | false=>rw [h1] at ho; cases ho
  | true =>
   rw [h1] at ho
   rcases List.mem_cons.1 hv with e | hv
   ·subst e; exact h1
   ·exact oldL_mem (show oldL n l = true from ho) v hv
def OldO (n : K4) : Ob → Prop
 | .c (.l xs) sup prev=>oldL n xs = true ∧ sup = false ∧ prev = none
 | .c (.b _ _) sup prev=>sup = false ∧ prev = none
 | .m es _ _=>∀ e ∈ es,oldV n e.1 = true ∧ oldV n e.2 = true
 | _=>False
theorem OldO.prev {n : K4} {o : Ob} (h : OldO n o) : prevOf o = none:=by
 cases o with
 | c cs sup prev=>cases cs with
  | l xs=>exact h.2.2
  | b m c=>exact h.2
 | m es bs c=>rfl
 | it _ _ _ _=>exact h.elim
 | it0=>exact h.elim
 | lp _ _=>exact h.elim
theorem OldO.sup {n : K4} {o : Ob} (h : OldO n o) : supOf o = false:=by
 cases o with
 | c cs sup prev=>cases cs with
  | l xs=>exact h.2.1
  | b m c=>exact h.1
 | m es bs c=>rfl
 | it _ _ _ _=>exact h.elim
 | it0=>exact h.elim
 | lp _ _=>exact h.elim
theorem clnO_some {n : K4} {o : OOb} {ob : Ob} (h : clnO n o = some ob) : ∃ obr,o = some obr ∧ (prevOf ob = none → ∀ q,prevOf obr = some q → n.toN ≤ q.toN) ∧ ∀ {φ : Emb} {w : World} {b s tot : Nat},ObOK ρ φ w obr b s tot → ObOK ρ φ w ob b s tot:=by
 cases o with
 | none=>cases h
 | some obr =>
  refine ⟨obr,rfl,?_⟩
  cases obr with
  | c cs sup prev =>
   have h : some (Ob.c cs sup (clnP n prev)) = some ob:=h
   cases h
   refine ⟨fun hp q hq=>?_,fun k=>k⟩
   have hq : prev = some q:=hq
   subst hq
   have hp : @Bool.rec (fun _=>Option K4) none (some q) (ltK q n) = none:=hp
   cases hl : ltK q n with
   | true=>rw [hl] at hp; cases hp
   | false =>
    rcases Nat.lt_or_ge q.toN n.toN with h | h
    ·rw [ltK_iff.2 h] at hl; cases hl
    ·exact h
  | m _ _ _=>cases h; exact ⟨fun _ q hq=>(by cases hq),fun k=>k⟩
  | it _ _ _ _=>cases h; exact ⟨fun _ q hq=>(by cases hq),fun k=>k⟩
  | it0=>cases h; exact ⟨fun _ q hq=>(by cases hq),fun k=>k⟩
  | lp _ _=>cases h; exact ⟨fun _ q hq=>(by cases hq),fun k=>k⟩
theorem ObOK_agree {n : K4} {φ1 φ2 : Emb} (hφ : ∀ p x,p.toN < n.toN → φ1 p = some x → φ2 p = some x) {w : World} {o : Ob} {b s tot : Nat} (ho : OldO n o) (k : ObOK ρ φ1 w o b s tot) : ObOK ρ φ2 w o b s tot:=by
 cases o with
 | c cs sup prev =>
  obtain ⟨c,e,fr,h1,h2,h3,h4,h5⟩:=k
  refine ⟨c,e,fr,h1,h2,h3,h4,fun i v hv=>?_⟩
  obtain ⟨x,k1,k2,k3⟩:=h5 i v hv
  refine ⟨x,k1,?_,k3⟩
  cases cs with
  | l xs=>exact rel_agree hφ (oldL_mem ho.1 v (List.mem_of_getElem? hv)) k2
  | b m c =>
   by_cases hi : i < m
   ·rw [Cs.b_pos hi] at hv; cases hv; exact rel_agree hφ rfl k2
   ·rw [Cs.b_neg hi] at hv; cases hv
 | m es bs clk =>
  obtain ⟨ents,h1,h2,h3⟩:=k
  refine ⟨ents,h1,?_,h3⟩
  have ho' : ∀ e ∈ es,oldV n e.1 = true ∧ oldV n e.2 = true:=ho
  clear h1 h3 ho
  generalize ents.toList = l at h2
  induction es generalizing l with
  | nil=>exact h2
  | cons e es ih =>
   obtain ⟨y,ys,rfl,k1,k2,k3⟩:=h2
   obtain ⟨o1,o2⟩:=ho' e (List.mem_cons_self ..)
   exact ⟨y,ys,rfl,rel_agree hφ o1 k1,rel_agree hφ o2 k2,ih (fun e he=>ho' e (List.mem_cons_of_mem _ he)) _ k3⟩
 | it _ _ _ _=>exact ho.elim
 | it0=>exact ho.elim
 | lp _ _=>exact ho.elim
theorem noneK_good {p : Option K4} {κ : R} (h : (noneK p κ).good) : p = none ∧ noneK p κ = κ:=by
 cases p with
 | none=>exact ⟨rfl,rfl⟩
 | some q=>exact h.elim
theorem sameNs_good : ∀ {a b : List Nat} {κ : R},(sameNs a b κ).good → a = b ∧ sameNs a b κ = κ
 | [],[],κ,_=>⟨rfl,rfl⟩
 | [],_ :: _,κ,h=>h.elim
 | _ :: _,[],κ,h=>h.elim
 | x :: a,y :: b,κ,h=>by
  have h : R.good (br (Nat.beq x y) (sameNs a b κ) (.fail "unlike")):=h
  obtain ⟨h1,e1⟩:=br_good h
  rw [e1] at h
  obtain ⟨h2,e2⟩:=sameNs_good h
  exact ⟨by rw [Nat.eq_of_beq_eq_true h1,h2],Eq.trans e1 e2⟩
theorem sameEs_good {n : K4} : ∀ {a b : List (V × V)} {κ : R},(sameEs n a b κ).good → a = b ∧ (∀ e ∈ a,oldV n e.1 = true ∧ oldV n e.2 = true) ∧ sameEs n a b κ = κ
 | [],[],κ,_=>⟨rfl,fun e he=>by simp at he,rfl⟩
 | [],_ :: _,κ,h=>h.elim
 | _ :: _,[],κ,h=>h.elim
 | (x,y) :: a,(x',y') :: b,κ,h=>by
  have h : R.good (br (oldV n x) (br (oldV n y) (sameV x x' (sameV y y' (sameEs n a b κ))) (.fail "a new place")) (.fail "a new place")):=h
  obtain ⟨h1,e1⟩:=br_good h
  rw [e1] at h
  obtain ⟨h2,e2⟩:=br_good h
  rw [e2] at h
  obtain ⟨h3,e3⟩:=sameV_good h
  rw [e3] at h
  obtain ⟨h4,e4⟩:=sameV_good h
  rw [e4] at h
  obtain ⟨h5,h6,e5⟩:=sameEs_good h
  refine ⟨by rw [h3,h4,h5],fun e he=>?_,Eq.trans e1 (e2.trans (e3.trans (e4.trans e5)))⟩
  rcases List.mem_cons.1 he with e' | he
  ·subst e'; exact ⟨h1,h2⟩
  ·exact h6 e he
theorem sameO_good {n : K4} {a b : Ob} {κ : R} (h : (sameO n a b κ).good) : a = b ∧ OldO n a ∧ sameO n a b κ = κ:=by
 cases a with
 | c cs sup prev =>
  have h0 : R.good (br sup (.fail "memory that may be shared") (noneK prev (@Ob.rec (fun _=>R) (fun cs' sup' prev'=>br sup' (.fail "memory that may be shared") (noneK prev' (sameCs n cs cs' κ))) (fF3 "unlike") (fF4 "unlike") (.fail "unlike") (fF2 "unlike") b))):=h
  obtain ⟨h1,e1⟩:=br_good' h0
  rw [e1] at h0
  obtain ⟨h2,e2⟩:=noneK_good h0
  rw [e2] at h0
  cases b with
  | c cs' sup' prev' =>
   have h0 : R.good (br sup' (.fail "memory that may be shared") (noneK prev' (sameCs n cs cs' κ))):=h0
   obtain ⟨h3,e3⟩:=br_good' h0
   rw [e3] at h0
   obtain ⟨h4,e4⟩:=noneK_good h0
   rw [e4] at h0
   subst h1 h2 h3 h4
   cases cs with
   | l xs=>cases cs' with
    | l ys =>
     have h0 : R.good (br (oldL n xs) (sameV (.tup xs) (.tup ys) κ) (.fail "a new place")):=h0
     obtain ⟨h5,e5⟩:=br_good h0
     rw [e5] at h0
     obtain ⟨h6,e6⟩:=sameV_good h0
     cases h6
     exact ⟨rfl,⟨h5,rfl,rfl⟩,Eq.trans e5 e6⟩
    | b m c=>exact h0.elim
   | b m c=>cases cs' with
    | l ys=>exact h0.elim
    | b m' c' =>
     have h0 : R.good (br (Nat.beq m m') (br (Nat.beq c c') κ (.fail "unlike")) (.fail "unlike")):=h0
     obtain ⟨h5,e5⟩:=br_good h0
     rw [e5] at h0
     obtain ⟨h6,e6⟩:=br_good h0
     exact ⟨by rw [Nat.eq_of_beq_eq_true h5,Nat.eq_of_beq_eq_true h6],⟨rfl,rfl⟩,Eq.trans e5 e6⟩
  | m _ _ _=>exact h0.elim
  | it _ _ _ _=>exact h0.elim
  | it0=>exact h0.elim
  | lp _ _=>exact h0.elim
 | m es bs c=>cases b with
  | m es' bs' c' =>
   have h0 : R.good (br (Nat.beq c c') (sameNs bs bs' (sameEs n es es' κ)) (.fail "unlike")):=h
   obtain ⟨h1,e1⟩:=br_good h0
   rw [e1] at h0
   obtain ⟨h2,e2⟩:=sameNs_good h0
   rw [e2] at h0
   obtain ⟨h3,h4,e3⟩:=sameEs_good h0
   refine ⟨by rw [Nat.eq_of_beq_eq_true h1,h2,h3],h4,Eq.trans e1 (e2.trans e3)⟩
  | c _ _ _=>exact h.elim
  | it _ _ _ _=>exact h.elim
  | it0=>exact h.elim
  | lp _ _=>exact h.elim
 | it _ _ _ _=>exact h.elim
 | it0=>exact h.elim
 | lp _ _=>exact h.elim
theorem sameOO_good {n : K4} {a b : OOb} {κ : R} (h : (sameOO n a b κ).good) : a = b ∧ (∀ o,a = some o → OldO n o) ∧ sameOO n a b κ = κ:=by
 cases a with
 | none=>cases b with
  | none=>exact ⟨rfl,fun o h=>(by cases h),rfl⟩
  | some y=>exact h.elim
 | some x=>cases b with
  | none=>exact h.elim
  | some y =>
   obtain ⟨h1,h2,e⟩:=sameO_good (show R.good (sameO n x y κ) from h)
   subst h1
   exact ⟨rfl,fun o h=>(by cases h; exact h2),e⟩
theorem sameAll_good {n : K4} {h1 h' : Heap} : ∀ {acc : List K4} {κ : R},(sameAll n h1 h' acc κ).good → (∀ p ∈ acc,hget p h1 = hget p h' ∧ ∀ o,hget p h1 = some o → OldO n o) ∧ sameAll n h1 h' acc κ = κ
 | [],κ,_=>⟨fun p hp=>by simp at hp,rfl⟩
 | q :: acc,κ,h=>by
  have e0 : sameAll n h1 h' (q :: acc) κ = sameOO n (hget q h1) (hget q h') (sameAll n h1 h' acc κ):=by
   show (hgetR q h1 fun a=>hgetR q h' fun b=>sameOO n a b (sameAll n h1 h' acc κ)) = _
   rw [hgetR_eq,hgetR_eq]
  rw [e0] at h
  obtain ⟨a1,a2,e1⟩:=sameOO_good h
  rw [e1] at h
  obtain ⟨a3,e2⟩:=sameAll_good h
  refine ⟨fun p hp=>?_,e0.trans (e1.trans e2)⟩
  rcases List.mem_cons.1 hp with e | hp
  ·subst e; exact ⟨a1,a2⟩
  ·exact a3 p hp
def ResOK (n : K4) (v1 : V) (h1 : Heap) (v' : V) (h' : Heap) : Prop :=
 (oldV n v1 = true ∧ v1 = v') ∨ (oldV n v1 = false ∧ ∃ p p' off len cap ex esz,v1 = .sl p off len cap ex esz ∧ v' = .sl p' off len cap ex esz ∧ n.toN ≤ p.toN ∧ n.toN ≤ p'.toN ∧ clnO n (hget p h1) = clnO n (hget p' h') ∧ ∀ o,clnO n (hget p h1) = some o → OldO n o)
theorem sameRes_good {n : K4} {v1 v' : V} {h1 h' : Heap} {κ : R} (h : (sameRes n v1 h1 v' h' κ).good) : ResOK n v1 h1 v' h' ∧ sameRes n v1 h1 v' h' κ = κ:=by
 unfold sameRes at h ⊢
 cases ho : oldV n v1 with
 | true =>
  rw [ho] at h
  obtain ⟨a,e⟩:=sameV_good (show R.good (sameV v1 v' κ) from h)
  exact ⟨.inl ⟨ho,a⟩,e⟩
 | false =>
  rw [ho] at h
  have h : R.good (asSl v1 (.fail "a result") fun p off len cap ex esz=>asSl v' (.fail "a result") fun p' off' len' cap' ex' esz'=>br (ltK p n) (.fail "a result") (br (ltK p' n) (.fail "a result") (sameV (.sl p off len cap ex esz) (.sl p off' len' cap' ex' esz') (hgetR p h1 fun a=>hgetR p' h' fun b=>sameOO n (clnO n a) (clnO n b) κ)))):=h
  show ResOK n v1 h1 v' h' ∧ (asSl v1 (.fail "a result") fun p off len cap ex esz=>asSl v' (.fail "a result") fun p' off' len' cap' ex' esz'=>br (ltK p n) (.fail "a result") (br (ltK p' n) (.fail "a result") (sameV (.sl p off len cap ex esz) (.sl p off' len' cap' ex' esz') (hgetR p h1 fun a=>hgetR p' h' fun b=>sameOO n (clnO n a) (clnO n b) κ)))) = κ
  rcases asSl_good h with ⟨_,e1⟩ | ⟨p,off,len,cap,ex,esz,hv,e1⟩
  ·rw [e1] at h; exact h.elim
  rw [e1] at h ⊢
  rcases asSl_good h with ⟨_,e2⟩ | ⟨p',off',len',cap',ex',esz',hv',e2⟩
  ·rw [e2] at h; exact h.elim
  rw [e2] at h ⊢
  obtain ⟨a1,e3⟩:=br_good' h
  rw [e3] at h ⊢
  obtain ⟨a2,e4⟩:=br_good' h
  rw [e4] at h ⊢
  obtain ⟨a3,e5⟩:=sameV_good h
  rw [e5] at h ⊢
  rw [hgetR_eq,hgetR_eq] at h ⊢
  obtain ⟨a4,a5,e6⟩:=sameOO_good h
  rw [e6]
  cases a3
  have n1 : n.toN ≤ p.toN:=by
   rcases Nat.lt_or_ge p.toN n.toN with h | h
   ·rw [ltK_iff.2 h] at a1; cases a1
   ·exact h
  have n2 : n.toN ≤ p'.toN:=by
   rcases Nat.lt_or_ge p'.toN n.toN with h | h
   ·rw [ltK_iff.2 h] at a2; cases a2
   ·exact h
  exact ⟨.inr ⟨ho,p,p',off,len,cap,ex,esz,hv,hv',n1,n2,a4,a5⟩,rfl⟩
theorem maxK_eq (a b : K4) (κ : K4 → R) : ∃ m : K4,maxK a b κ = κ m ∧ a.toN ≤ m.toN ∧ b.toN ≤ m.toN:=by
 unfold maxK
 cases h : Nat.ble a.toN b.toN with
 | true=>exact ⟨b,rfl,ble_iff.1 h,Nat.le_refl _⟩
 | false =>
  have : ¬ a.toN ≤ b.toN:=fun h'=>by rw [ble_iff.2 h'] at h; cases h
  exact ⟨a,rfl,Nat.le_refl _,by omega⟩
def WayOK (n : K4) (v1 : V) (h1 : Heap) (acc : List K4) (m : K4) : R → Prop
 | .rv v h n'=>ResOK n v1 h1 v h ∧ (∀ p ∈ acc,hget p h1 = hget p h ∧ ∀ o,hget p h1 = some o → OldO n o) ∧ n'.toN ≤ m.toN
 | _=>False
theorem allK_good {n : K4} {v1 : V} {h1 : Heap} {acc : List K4} : ∀ {r : R} {mx : K4} {κ : K4 → R},(allK n v1 h1 acc r mx κ).good → ∃ m : K4,mx.toN ≤ m.toN ∧ r.sat (WayOK n v1 h1 acc m) ∧ allK n v1 h1 acc r mx κ = κ m
 | .ok _ _ _ _,mx,κ,h=>h.elim
 | .fail _,mx,κ,h=>h.elim
 | .rv v h0 n',mx,κ,h=>by
  have h : R.good (sameRes n v1 h1 v h0 (sameAll n h1 h0 acc (maxK n' mx κ))):=h
  obtain ⟨a1,e1⟩:=sameRes_good h
  rw [e1] at h
  obtain ⟨a2,e2⟩:=sameAll_good h
  rw [e2] at h
  obtain ⟨m,e3,l1,l2⟩:=maxK_eq n' mx κ
  exact ⟨m,l2,⟨a1,a2,l1⟩,Eq.trans e1 (e2.trans e3)⟩
 | .both a b,mx,κ,h=>by
  have h : R.good (allK n v1 h1 acc a mx fun mx=>allK n v1 h1 acc b mx κ):=h
  obtain ⟨m1,l1,s1,e1⟩:=allK_good h
  rw [e1] at h
  obtain ⟨m2,l2,s2,e2⟩:=allK_good h
  refine ⟨m2,Nat.le_trans l1 l2,⟨R.sat_mono (fun r hr=>?_) s1,s2⟩,Eq.trans e1 e2⟩
  cases r with
  | rv v h0 n'=>exact ⟨hr.1,hr.2.1,Nat.le_trans hr.2.2 l2⟩
  | ok _ _ _ _=>exact hr
  | fail _=>exact hr
  | both _ _=>exact hr
theorem firstK_good : ∀ {r : R} {κ : V → Heap → R},(firstK r κ).good → ∃ v h,firstK r κ = κ v h
 | .ok _ _ _ _,κ,h=>h.elim
 | .fail _,κ,h=>h.elim
 | .rv v h0 n',κ,h=>⟨v,h0,rfl⟩
 | .both a b,κ,h=>firstK_good (r:=a) h
theorem killO_eq (o : Ob) (h : Heap) (κ : Heap → R) : killO o h κ = κ (killS (prevOf o) h):=by
 cases o with
 | c cs sup prev =>
  cases prev with
  | none=>rfl
  | some q=>show hputR q h none κ = _; rw [hputR_eq,hput_eq]; rfl
 | m _ _ _=>rfl
 | it _ _ _ _=>rfl
 | it0=>rfl
 | lp _ _=>rfl
structure PutOK (h h1 : Heap) (acc : List K4) (hf : Heap) : Prop where
 put : ∀ q o,hget q hf = some o → (q ∈ acc ∧ hget q h1 = some o) ∨ (q ∉ acc ∧ hget q h = some o ∧ ∀ p ∈ acc,∀ op,hget p h = some op → prevOf op ≠ some q)
theorem putsK_good {h h1 : Heap} : ∀ {acc : List K4} {κ : Heap → R},(putsK h h1 acc κ).good → ∃ hf,PutOK h h1 acc hf ∧ putsK h h1 acc κ = κ hf
 | [],κ,_=>⟨h,⟨fun q o hq=>.inr ⟨by simp,hq,fun p hp=>by simp at hp⟩⟩,rfl⟩
 | p :: acc,κ,hg=>by
  have hg : R.good (putsK h h1 acc fun hf=>hgetR p h fun o=>@Option.rec Ob (fun _=>R) (.fail "an object") (fun o=>killO o hf fun hf=>hgetR p h1 fun o1=>hputR p hf o1 κ) o):=hg
  obtain ⟨hf,ok,e1⟩:=putsK_good hg
  rw [e1] at hg
  have e0 : putsK h h1 (p :: acc) κ = _:=e1
  rw [e0]
  rw [hgetR_eq] at hg ⊢
  cases hp : hget p h with
  | none=>rw [hp] at hg; exact hg.elim
  | some op =>
   show ∃ hf',PutOK h h1 (p :: acc) hf' ∧ (killO op hf fun hf=>hgetR p h1 fun o1=>hputR p hf o1 κ) = κ hf'
   rw [killO_eq,hgetR_eq,hputR_eq,hput_eq]
   refine ⟨_,⟨fun q o hq=>?_⟩,rfl⟩
   rcases hget_inv hq with ⟨rfl,e⟩ | ⟨hne,hq⟩
   ·exact .inl ⟨List.mem_cons_self ..,e⟩
   ·obtain ⟨k1,hq⟩:=killS_inv hq
    rcases ok.put q o hq with ⟨a,b⟩ | ⟨a,b,c⟩
    ·exact .inl ⟨List.mem_cons_of_mem _ a,b⟩
    ·refine .inr ⟨fun hm=>?_,b,fun p' hp' op' hop'=>?_⟩
     ·rcases List.mem_cons.1 hm with e | hm
      ·exact hne e.symm
      ·exact a hm
     ·rcases List.mem_cons.1 hp' with e | hp'
      ·subst e; rw [hp] at hop'; cases hop'; exact k1
      ·exact c p' hp' op' hop'
section
variable {h hs h1 h' hf : Heap} {acc : List K4} {n n' m : K4} {v1 v : V} {φ φ' : Emb} {w w' : World}
theorem lay_apart (sub : Sub h hs acc) (put : PutOK h h1 acc hf) (g : Gam ρ B h n φ w) {q : K4} {o : Ob} (hq : q ∉ acc) (ho : hget q hf = some o) {b s tot : Nat} (hφ : φ q = some (b,s,tot)) {p : K4} (hp : p ∈ acc) {s' tot' : Nat} (hφp : φ p = some (b,s',tot')) : False:=by
 obtain ⟨op',hop⟩:=sub.has p hp
 obtain ⟨op,k1,_,k2,_⟩:=sub.sub p op' hop
 rcases put.put q o ho with ⟨a,_⟩ | ⟨_,a,c⟩
 ·exact hq a
 ·have hne : p ≠ q:=fun e=>hq (e ▸ hp)
  rcases g.sep p q op o b s' tot' s tot hne k1 a hφp hφ with e | e
  ·exact c p hp op k1 e
  ·have:=g.sup q p o op b s tot s' tot' a e k1 hφ hφp
   cases op with
   | c cs sup prev =>
    have this : sup = true:=this
    subst this
    cases k2
   | m _ _ _=>cases this
   | it _ _ _ _=>cases this
   | it0=>cases this
   | lp _ _=>cases this
theorem lay_same (sub : Sub h hs acc) (put : PutOK h h1 acc hf) (g : Gam ρ B h n φ w) (f1 : Fr hs h' φ φ' n n' w w') {q : K4} {o : Ob} (hq : q ∉ acc) (ho : hget q hf = some o) {b s tot : Nat} (hφ : φ q = some (b,s,tot)) : w'.heap[b]? = w.heap[b]?:=by
 refine f1.old b (g.blk q b s tot hφ).2 fun p s' tot' hp=>?_
 cases hx : hget p hs with
 | none=>rfl
 | some o'=>exact (lay_apart sub put g hq ho hφ (sub.mem hx) hp).elim
theorem lay_base (sub : Sub h hs acc) (put : PutOK h h1 acc hf) (g : Gam ρ B h n φ w) (f1 : Fr hs h' φ φ' n n' w w') (g1 : Gam ρ B h' n' φ' w')
  (hacc : ∀ p ∈ acc,hget p h1 = hget p h' ∧ ∀ o,hget p h1 = some o → OldO n o) (hm : n.toN ≤ m.toN) : Gam ρ B hf m φ w' ∧ Fr h hf φ φ n m w w':=by
 have back : ∀ p x,p.toN < n.toN → φ' p = some x → φ p = some x:=fun p x hp hx=>by
  rcases f1.new p x hx with h | ⟨h,_⟩
  ·exact h
  ·omega
 have inacc : ∀ q o,q ∈ acc → hget q hf = some o → hget q h' = some o ∧ OldO n o:=fun q o hq ho=>by
  rcases put.put q o ho with ⟨_,a⟩ | ⟨a,_⟩
  ·exact ⟨(hacc q hq).1 ▸ a,(hacc q hq).2 o a⟩
  ·exact absurd hq a
 have outacc : ∀ q o,q ∉ acc → hget q hf = some o → hget q h = some o:=fun q o hq ho=>by
  rcases put.put q o ho with ⟨a,_⟩ | ⟨_,a,_⟩
  ·exact absurd a hq
  ·exact a
 refine ⟨⟨Nat.le_trans g.base f1.size,fun p x hx=>Nat.lt_of_lt_of_le (g.dom p x hx) hm,fun p b s tot hx=>⟨(g.blk p b s tot hx).1,Nat.lt_of_lt_of_le (g.blk p b s tot hx).2 f1.size⟩,fun q o b s tot ho hx=>?_,fun p q o o' b s tot s' tot' hne ho ho' hx hy=>?_,fun p q o o' b s tot s' tot' ho hpr ho' hx hy=>?_,g1.glob⟩,
  ⟨Emb.le_refl φ,fun _ _ h=>.inl h,hm,f1.os,f1.tape,f1.out,f1.size,fun b hb hn=>f1.old b hb fun p s tot hp=>?_,fun _ _ _ _ h=>.inl h,fun p hp hn=>?_⟩⟩
 ·by_cases hq : q ∈ acc
  ·obtain ⟨a,c⟩:=inacc q o hq ho
   exact ObOK_agree back c (g1.obj q o b s tot a (f1.ext _ _ hx))
  ·exact ObOK_heap (lay_same sub put g f1 hq ho hx) (g.obj q o b s tot (outacc q o hq ho) hx)
 ·by_cases hp : p ∈ acc
  ·by_cases hq : q ∈ acc
   ·exact g1.sep p q o o' b s tot s' tot' hne (inacc p o hp ho).1 (inacc q o' hq ho').1 (f1.ext _ _ hx) (f1.ext _ _ hy)
   ·exact (lay_apart sub put g hq ho' hy hp hx).elim
  ·by_cases hq : q ∈ acc
   ·exact (lay_apart sub put g hp ho hx hq hy).elim
   ·exact g.sep p q o o' b s tot s' tot' hne (outacc p o hp ho) (outacc q o' hq ho') hx hy
 ·by_cases hp : p ∈ acc
  ·rw [(inacc p o hp ho).2.prev] at hpr; cases hpr
  ·by_cases hq : q ∈ acc
   ·exact (lay_apart sub put g hp ho hx hq hy).elim
   ·exact g.sup p q o o' b s tot s' tot' (outacc p o hp ho) hpr (outacc q o' hq ho') hx hy
 ·cases hx : hget p hs with
  | none=>rfl
  | some o'=>have:=hn p s tot hp; obtain ⟨o0,e0⟩:=sub.in_h hx; rw [e0] at this; cases this
 ·cases hx : hget p hf with
  | none=>rfl
  | some o =>
   exfalso
   by_cases hq : p ∈ acc
   ·obtain ⟨o',ho'⟩:=sub.has p hq
    obtain ⟨o0,e0⟩:=sub.in_h ho'
    rw [e0] at hn; cases hn
   ·rw [outacc p o hq hx] at hn; cases hn
theorem lay_ok (sub : Sub h hs acc) (put : PutOK h h1 acc hf) (g : Gam ρ B h n φ w) (f1 : Fr hs h' φ φ' n n' w w') (g1 : Gam ρ B h' n' φ' w') {x : Value} (r1 : rel ρ φ' v x)
  (way : WayOK n v1 h1 acc m (.rv v h' n')) (hm : n.toN ≤ m.toN) {vf : V} {hff : Heap} {nf : K4} (hres : resR n v1 h1 hf m = .rv vf hff nf) :
  ∃ φ'',Fr h hff φ φ'' n nf w w' ∧ Gam ρ B hff nf φ'' w' ∧ rel ρ φ'' vf x:=by
 obtain ⟨res,hacc,hn'⟩:=way
 obtain ⟨gb,fb⟩:=lay_base sub put g f1 g1 hacc hm
 have back : ∀ p x,p.toN < n.toN → φ' p = some x → φ p = some x:=fun p x hp hx=>by
  rcases f1.new p x hx with h | ⟨h,_⟩
  ·exact h
  ·omega
 unfold resR at hres
 rcases res with ⟨ho,e⟩ | ⟨ho,p,p',off,len,cap,ex,esz,e1,e2,hp,hp',heq,hold⟩
 ·subst e
  rw [ho] at hres
  have hres : R.rv v1 hf m = R.rv vf hff nf:=hres
  cases hres
  exact ⟨φ,fb,gb,rel_agree back ho r1⟩
 ·rw [ho] at hres
  subst e1 e2
  have hres : (hgetR p h1 fun o=>@Option.rec Ob (fun _=>R) (.fail "a result") (fun ob=>hputR m hf (some ob) fun hf=>m.nx fun m'=>.rv (.sl m off len cap ex esz) hf m') (clnO n o)) = .rv vf hff nf:=hres
  rw [hgetR_eq] at hres
  cases hob : clnO n (hget p h1) with
  | none=>rw [hob] at hres; cases hres
  | some ob =>
   rw [hob] at hres
   have hres : (hputR m hf (some ob) fun hf=>m.nx fun m'=>.rv (.sl m off len cap ex esz) hf m') = .rv vf hff nf:=hres
   rw [hputR_eq,hput_eq] at hres
   rcases K4.nx_eq m (fun m'=>.rv (.sl m off len cap ex esz) (hputS m hf (some ob)) m') with ⟨why,e⟩ | ⟨m',hm',e⟩
   ·rw [e] at hres; cases hres
   rw [e] at hres
   cases hres
   have hOld:=hold ob hob
   obtain ⟨obr,hob',hpv,hcl⟩:=clnO_some (heq ▸ hob)
   obtain ⟨b',s',tot',o,cap',hφ',gx,c1,c2,c3,c4⟩:=rel_sl r1
   have hmn : φ m = none:=by
    cases hx : φ m with
    | none=>rfl
    | some x=>have:=g.dom m x hx; omega
   have hoblk:=g1.blk p' b' s' tot' hφ'
   -- no object that was there lies in that block
   have apart : ∀ q oq,hget q hf = some oq → ∀ s tot,φ q = some (b',s,tot) → False:=fun q oq hq s tot hx=>by
    have hqn:=g.dom q _ hx
    have hne : p' ≠ q:=fun e=>by rw [e] at hp'; omega
    by_cases hqa : q ∈ acc
    ·rcases put.put q oq hq with ⟨_,a⟩ | ⟨a,_⟩
     ·have a' : hget q h' = some oq:=(hacc q hqa).1 ▸ a
      rcases g1.sep p' q obr oq b' s' tot' s tot hne hob' a' hφ' (f1.ext _ _ hx) with e | e
      ·have:=hpv hOld.prev q e; omega
      ·rw [((hacc q hqa).2 oq a).prev] at e; cases e
     ·exact a hqa
    ·rcases f1.fresh p' b' s' tot' hφ' with h | h | ⟨r,sr,tr,hr,hne'⟩
     ·have:=g.dom p' _ h; omega
     ·have:=(g.blk q b' s tot hx).2; omega
     ·cases hx' : hget r hs with
      | none=>exact hne' hx'
      | some o'=>exact lay_apart sub put g hqa hq hx (sub.mem hx') hr
   refine ⟨updE φ m (b',s',tot'),⟨Emb.le_trans fb.ext (updE_le hmn),fun q y hy=>?_,by omega,fb.os,fb.tape,fb.out,fb.size,fb.old,fun q b s t hx=>?_,fun q hq hn=>?_⟩,⟨gb.base,fun q y hy=>?_,fun q b s t hy=>?_,fun q oq b s t hq hy=>?_,fun q r oq or b s t s2 t2 hne hq hr hx hy=>?_,fun q r oq or b s t s2 t2 hq hpr hr hx hy=>?_,gb.glob⟩,?_⟩
   ·rcases updE_inv hy with ⟨rfl,_⟩ | ⟨_,hy⟩
    ·exact .inr ⟨hm,by omega⟩
    ·exact .inl hy
   ·rcases updE_inv hx with ⟨rfl,e⟩ | ⟨_,hx⟩
    ·cases e
     rcases f1.fresh p' b' s' tot' hφ' with h | h | ⟨r,sr,tr,hr,hne'⟩
     ·have:=g.dom p' _ h; omega
     ·exact .inr (.inl h)
     ·refine .inr (.inr ⟨r,sr,tr,hr,?_⟩)
      cases hx' : hget r hs with
      | none=>exact absurd hx' hne'
      | some o'=>obtain ⟨o0,e0⟩:=sub.in_h hx'; rw [e0]; simp
    ·exact .inl hx
   ·have hne : m ≠ q:=fun e=>hq (e ▸ hmn)
    rw [hget_hputS_ne _ _ hne]
    exact fb.dm q hq hn
   ·rcases updE_inv hy with ⟨rfl,_⟩ | ⟨_,hy⟩
    ·omega
    ·have:=gb.dom q y hy; omega
   ·rcases updE_inv hy with ⟨rfl,e⟩ | ⟨_,hy⟩
    ·cases e; exact hoblk
    ·exact gb.blk q b s t hy
   ·rcases updE_inv hy with ⟨rfl,e⟩ | ⟨hne,hy⟩
    ·cases e
     rw [hget_hputS_same] at hq; cases hq
     refine ObOK_agree (φ1:=φ') (fun q y hq hy=>?_) hOld (hcl (g1.obj p' obr _ _ _ hob' hφ'))
     rw [updE_ne fun e=>by subst e; omega]
     exact back q y hq hy
    ·rw [hget_hputS_ne _ _ hne] at hq
     exact ObOK_mono (updE_le hmn) (gb.obj q oq b s t hq hy)
   ·rcases updE_inv hx with ⟨rfl,e⟩ | ⟨hq',hx⟩
    ·cases e
     rcases updE_inv hy with ⟨e,_⟩ | ⟨hr',hy⟩
     ·exact absurd e hne
     ·rw [hget_hputS_ne _ _ hr'] at hr
      exact (apart r or hr s2 t2 hy).elim
    ·rw [hget_hputS_ne _ _ hq'] at hq
     rcases updE_inv hy with ⟨rfl,e⟩ | ⟨hr',hy⟩
     ·cases e
      exact (apart q oq hq s t hx).elim
     ·rw [hget_hputS_ne _ _ hr'] at hr
      exact gb.sep q r oq or b s t s2 t2 hne hq hr hx hy
   ·rcases updE_inv hx with ⟨rfl,e⟩ | ⟨hq',hx⟩
    ·rw [hget_hputS_same] at hq; cases hq
     rw [hOld.prev] at hpr; cases hpr
    ·rw [hget_hputS_ne _ _ hq'] at hq
     rcases updE_inv hy with ⟨rfl,e⟩ | ⟨hr',hy⟩
     ·cases e
      exact (apart q oq hq s t hx).elim
     ·rw [hget_hputS_ne _ _ hr'] at hr
      exact gb.sup q r oq or b s t s2 t2 hq hpr hr hx hy
   ·rw [gx]
    simp only [rel]
    exact ⟨b',s',tot',o,cap',updE_same _ _ _,rfl,c1,c2,c3,c4⟩
end
theorem brK_ok {f : FuncId} {run : Heap → R} {k : Nat} {args : List V} {h : Heap} {n : K4} {v : V} {h1 : Heap} {n1 : K4} (hr : brK k run args h n = .rv v h1 n1) {φ : Emb} {w : World} {xs : Array Value} (g : Gam ρ B h n φ w) (hxs : rels ρ φ args xs.toList)
  (H : ∀ (hs : Heap) (Φ : R → Prop),(run hs).sat Φ → Gam ρ B hs n φ w → Runs P f xs w fun x w'=>∃ v h1 n1 φ',Φ (.rv v h1 n1) ∧ Fr hs h1 φ φ' n n1 w w' ∧ Gam ρ B h1 n1 φ' w' ∧ rel ρ φ' v x) :
  Runs P f xs w fun x w'=>∃ φ',Fr h h1 φ φ' n n1 w w' ∧ Gam ρ B h1 n1 φ' w' ∧ rel ρ φ' v x:=by
 unfold brK at hr
 obtain ⟨hs,acc,sub,e1⟩:=reachK_ok k (todo:=plsL args []) (κ:=fun hs acc=>finK n h acc (run hs)) (Sub.nil (h:=h))
 rw [e1] at hr
 unfold finK at hr
 obtain ⟨v1,hh1,e2⟩:=firstK_good (by rw [hr]; trivial)
 rw [e2] at hr
 obtain ⟨m,hm,sat,e3⟩:=allK_good (by rw [hr]; trivial)
 rw [e3] at hr
 obtain ⟨hf,put,e4⟩:=putsK_good (by rw [hr]; trivial)
 rw [e4] at hr
 have gs : Gam ρ B hs n φ w:=by
  refine ⟨g.base,g.dom,g.blk,fun p o b s tot hp hx=>?_,fun p q o o' b s tot s' tot' hne hp hq hx hy=>?_,fun p q o o' b s tot s' tot' hp hpr hq hx hy=>?_,g.glob⟩
  ·obtain ⟨o0,e0,rfl,_⟩:=sub.sub p o hp
   exact clrP_ok (g.obj p o0 b s tot e0 hx)
  ·exfalso
   obtain ⟨o0,e0,_,g0,_⟩:=sub.sub p o hp
   obtain ⟨o1,e1,_,g1,_⟩:=sub.sub q o' hq
   have no : ∀ (ob : Ob),goodOb ob = true → supOf ob = true → False:=fun ob h1 h2=>by
    cases ob with
    | c cs sup prev =>
     cases sup with
     | true=>cases h1
     | false=>cases h2
    | _=>cases h2
   rcases g.sep p q o0 o1 b s tot s' tot' hne e0 e1 hx hy with h | h
   ·exact no o1 g1 (g.sup p q o0 o1 b s tot s' tot' e0 h e1 hx hy)
   ·exact no o0 g0 (g.sup q p o1 o0 b s' tot' s tot e1 h e0 hy hx)
  ·obtain ⟨o0,e0,rfl,_⟩:=sub.sub p o hp
   rw [clrP_prev] at hpr; cases hpr
 intro o a K Q hK
 refine H hs _ sat gs o a K Q fun x w' ⟨v',h',n',φ',way,f1,g1,r1⟩=>hK x w' ?_
 exact lay_ok sub put g f1 g1 r1 way hm hr
end
end Go.Ev

namespace Go.Ev
set_option linter.unusedVariables false
open Go.RowKit
abbrev rdK (pb px : K2) (al bl : List AOp) (cf : CF2) (b x : V) (h : Heap) (n : K4) : R :=
 ops2K [] cf al [(px,x),(pb,b)] sempty h n fun env t h n=>ops2K [] cf bl env t h n fun _ _ h n=>.rv (.bool true) h n
abbrev Rd:=CF2 → V → V → Heap → K4 → R
def noDefer (l : List Oper) : Bool:=l.all fun o=>match o.op with | .defer _=>false | _=>true
theorem noDefer_mem {l : List Oper} (h : noDefer l = true) : ∀ o ∈ l,∀ c,o.op ≠ .defer c:=fun o ho c e=>by
 have:=List.all_eq_true.1 h o ho
 rw [e] at this; cases this
def opsOf : Code → Option (Array Oper)
 | .region _ ops false=>some ops
 | _=>none
def bodOf : Code → Option (Array Oper)
 | .block _ c=>opsOf c
 | _=>none
def rdOf (P : Program) (A : ApC) : Option Rd :=
 match opsOf A.asg,bodOf A.bod,K2.ofN A.par,K2.ofN A.box with
 | some oa,some ob,some px,some pb=>match cOps P A.ntm oa oa.toList,cOps P A.ntm ob ob.toList with
  | some al,some bl=>if okOps [] al [px,pb] && (okOps [] bl (domOps al [px,pb]) && (noDefer oa.toList && (noDefer ob.toList && (Nat.blt A.par A.ntm && (Nat.blt A.box A.ntm && !(A.par == A.box)))))) then some (rdK pb px al bl) else none
  | _,_=>none
 | _,_,_,_=>none
theorem opsOf_some {c : Code} {ops : Array Oper} (h : opsOf c = some ops) : ∃ i,c = .region i ops false:=by
 unfold opsOf at h
 split at h
 ·cases h; exact ⟨_,rfl⟩
 ·cases h
theorem bodOf_some {c : Code} {ops : Array Oper} (h : bodOf c = some ops) : ∃ i j,c = .block i (.region j ops false):=by
 unfold bodOf at h
 split at h
 ·obtain ⟨j,rfl⟩:=opsOf_some h; exact ⟨_,j,rfl⟩
 ·cases h
def apOf (P : Program) (f : FuncId) : Option ApC :=
 match P.funcs[f]? with
 | some fn=>match fn.body with
  | some (.seq (.region _ r0 false) (.seq (.seq (.region _ r1 false) (.block _ (.rangeFunc (.tmp s6) ps asg bod))) (.seq (.region _ r4 false) .ret))) =>
   match r0.toList,r1.toList,r4.toList,ps.toList,fn.results.toList with
   | [o1,o2],[o3],[o4,o5],[par],[.tmp s4]=>match o1.op,o2.op,o3.op,o4.op,o5.op with
    | .box _ (.tmp s0),.assign (.const c2),.move (.tmp s1),.load tL (.tmp s2),.assign (.tmp s12) =>
     if (fn.name == "runtime.NumGoroutine") = false ∧ fn.ntmps = 13 ∧ s6 = 6 ∧ s4 = 4 ∧ s0 = 0 ∧ s1 = 1 ∧ s2 = 2 ∧ s12 = 12 ∧ o1.dst = some 2 ∧ o2.dst = some 4 ∧ o3.dst = some 6 ∧ o4.dst = some 12 ∧ o5.dst = some 4 ∧
      o1.guard = none ∧ o2.guard = none ∧ o3.guard = none ∧ o4.guard = none ∧ o5.guard = none ∧ cAgg P tL = some false then some ⟨asg,bod,par,2,13⟩ else none
    | _,_,_,_,_=>none
   | _,_,_,_,_=>none
  | _=>none
 | none=>none
def unK (l : List V) (κ : V → List V → R) : R:=@List.rec V (fun _=>R) (.fail "arguments") (fun x xs _=>κ x xs) l
def nlK (l : List V) (κ : R) : R:=@List.rec V (fun _=>R) κ (fF3 "arguments") l
def nilSlK (v : V) (κ : R) : R :=
 @V.rec (fun _=>R) (fun _=>Unit) (fF2 "nil expected") (fF1 "nil expected") (fF2 "nil expected") (fF6 "nil expected") (fF2 "nil expected") (fF2 "nil expected")
  (fun u=>@Nl.rec (fun _=>R) (.fail "nil expected") κ (.fail "nil expected") (.fail "nil expected") (.fail "nil expected") u) (fF1 "nil expected") (fF3 "nil expected") (fF2 "nil expected") (fF1 "nil expected") () (fun _ _ _ _=>()) v
def asFnK (v : V) (κ : Nat → List V → R) : R :=
 @V.rec (fun _=>R) (fun _=>Unit) (fF2 "function expected") (fF1 "function expected") (fF2 "function expected") (fF6 "function expected") (fF2 "function expected") (fF2 "function expected") (fF1 "function expected") (fF1 "function expected")
  (fun f caps _=>κ f caps) (fF2 "function expected") (fF1 "function expected") () (fun _ _ _ _=>()) v
def lpK (o : OOb) (κ : R) : R:=@Option.rec Ob (fun _=>R) (.fail "record") (fun o=>@Ob.rec (fun _=>R) (fF3 "record") (fF3 "record") (fF4 "record") (.fail "record") (fun _ _=>κ) o) o
def memFK (g : Nat) (l : List Nat) (κ : R) : R:=@List.rec Nat (fun _=>R) (.fail "an iterator that is not listed") (fun x _ ih=>br (Nat.beq x g) κ ih) l
def apLK (f : Nat) (its : List Nat) (cf : CF2) (args : List V) (h : Heap) (n : K4) : R :=
 unK args fun v l=>unK l fun s l=>nlK l (nilSlK v (asFnK s fun g caps=>memFK g its
  (hputR n h (some (.c (.l [.nil .sl]) false none)) fun h=>n.nx fun n1=>hputR n1 h (some (.lp f n)) fun h=>n1.nx fun n2 =>
   tcallK (cf (fnKey g) (.oth (.yl n1) :: caps) h n2) fun _ h m =>
    hgetR n1 h fun o=>lpK o (obR n h fun cs _ _=>getC cs 0 fun sv=>hputR n h none fun h=>hputR n1 h none fun h=>.rv sv h m))))
section
variable {P : Program} {ρ : Env} {B : Nat} {h : Heap} {n : K4}
def Unc (φ : Emb) (h : Heap) (l : Nat) : Prop:=∀ q s tot,φ q = some (l,s,tot) → hget q h = none
theorem Unc.step {φ φ1 : Emb} {h1 : Heap} {n1 : K4} {w w1 : World} {l : Nat} (u : Unc φ h l) (hl : l < w.heap.size) (f : Fr h h1 φ φ1 n n1 w w1) : Unc φ1 h1 l:=fun q s tot hq=>by
 rcases f.fresh q l s tot hq with e | e | ⟨r,s',tot',hr,hne⟩
 ·exact f.dm q (by rw [e]; simp) (u q s tot e)
 ·omega
 ·exact absurd (u r s' tot' hr) hne
theorem Gam.poke {φ : Emb} {w : World} (g : Gam ρ B h n φ w) {l : Nat} (u : Unc φ h l) (O : Obj) (hno : ∀ c e fr,w.heap[l]? ≠ some (.cells c e fr)) : Gam ρ B h n φ (w.putObj l O) where
 glob:=fun k c e fr hk=>⟨(g.glob k c e fr hk).1,by rw [World.putObj_heap_other (fun e'=>by subst e'; exact hno _ _ _ (g.glob _ c e fr hk).2)]; exact (g.glob k c e fr hk).2⟩
 base:=by rw [World.putObj_size]; exact g.base
 dom:=g.dom
 blk:=fun p b s t hp=>by rw [World.putObj_size]; exact g.blk p b s t hp
 obj:=fun p o b s t hp hφ=>by
  refine ObOK_heap (World.putObj_heap_other fun e=>?_) (g.obj p o b s t hp hφ)
  subst e
  rw [u p s t hφ] at hp; cases hp
 sep:=g.sep
 sup:=g.sup
theorem Fr.around {h1 : Heap} {n1 : K4} {φ φ1 : Emb} {w W : World} {l : Nat} {O O0 : Obj} (hl : w.heap[l]? = some O0) (f : Fr h h1 φ φ1 n n1 (w.putObj l O) W) : Fr h h1 φ φ1 n n1 w (W.putObj l O0):=by
 have hlt : l < w.heap.size:=by
  rcases Nat.lt_or_ge l w.heap.size with e | e
  ·exact e
  ·rw [Array.getElem?_eq_none e] at hl; cases hl
 have hs:=f.size
 rw [World.putObj_size] at hs
 refine ⟨f.ext,f.new,f.nn,f.os,f.tape,f.out,by rw [World.putObj_size]; exact hs,fun b hb hn=>?_,fun q b s t hq=>?_,f.dm⟩
 ·by_cases e : b = l
  ·subst e; rw [World.putObj_heap_same (by omega),hl]
  ·rw [World.putObj_heap_other e,f.old b (by rw [World.putObj_size]; exact hb) hn,World.putObj_heap_other e]
 ·have:=f.fresh q b s t hq
  rwa [World.putObj_size] at this
theorem Fr.poke {h1 : Heap} {n1 : K4} {φ φ1 : Emb} {w W : World} {l : Nat} (O : Obj) (hl : w.heap.size ≤ l) (f : Fr h h1 φ φ1 n n1 w W) : Fr h h1 φ φ1 n n1 w (W.putObj l O) :=
 ⟨f.ext,f.new,f.nn,f.os,f.tape,f.out,by rw [World.putObj_size]; exact f.size,fun b hb hn=>by rw [World.putObj_heap_other (by omega)]; exact f.old b hb hn,f.fresh,f.dm⟩
def rany : Regs:=Regs.all (VP.all (.oth .any))
theorem rget_rany (p : K2) : rget p rany = .oth .any:=by simp only [rget,rany,Regs.sel_all,VP.sel_all]
theorem rd_ok (hρ : OneSym ρ) {cf : CF} {cf2 : CF2} (hcf : CallOK P ρ B cf) (h2 : ∀ f,cf2 (fnKey f) = cf f) {A : ApC} {rd : Rd} (hrd : rdOf P A = some rd) {fn : FuncId} {box : K4} {x : V} {Φ : R → Prop}
  (hs : (rd cf2 (.ptr box 0) x h n).sat Φ) {φ : Emb} {w : World} {tmps : Array Value} {X : Value} {l D : Nat} (g : Gam ρ B h n φ w) (hl : w.heap[l]? = some (.loop (recOf A fn tmps D))) (u : Unc φ h l)
  (hsz : tmps.size = A.ntm) (hbox : rel ρ φ (.ptr box 0) (tmps.getD A.box undef)) (hX : rel ρ φ x X) :
  RoundIn Fence.wide 0 P l fn (tmps.setIfInBounds A.par X) A.asg A.bod w fun e w'=>e = .returned (.bool true) ∧
   ∃ v h1 n1 φ',v = .bool true ∧ Φ (.rv v h1 n1) ∧ Fr h h1 φ φ' n n1 w w' ∧ Gam ρ B h1 n1 φ' w':=by
 unfold rdOf at hrd
 split at hrd
 ·rename_i oa ob px pb ha hb hpx hpb
  split at hrd
  ·rename_i al bl hal hbl
   split at hrd
   ·rename_i hok
    cases hrd
    simp only [Bool.and_eq_true,Nat.blt_eq] at hok
    obtain ⟨ok1,ok2,nd1,nd2,lt1,lt2,hne⟩:=hok
    have hne : A.par ≠ A.box:=by simpa using hne
    obtain ⟨i,hasg⟩:=opsOf_some ha
    obtain ⟨j,k,hbod⟩:=bodOf_some hb
    have hlt : l < w.heap.size:=by
     rcases Nat.lt_or_ge l w.heap.size with e | e
     ·exact e
     ·rw [Array.getElem?_eq_none e] at hl; cases hl
    have hpp : px ≠ pb:=fun e=>hne (K2.ofN_inj hpx (e ▸ hpb))
    have ri : RI [] [px,pb] [(px,x),(pb,.ptr box 0)] (rputS px (rputS pb rany (.ptr box 0)) x) sempty:=by
     refine ⟨fun h=>(by cases h),fun p v hp=>?_,fun p hp=>?_,fun p s h=>(by cases h)⟩
     ·by_cases e : px = p
      ·subst e; rw [findR_same] at hp; cases hp; exact rget_rputS_same _ _ _
      ·rw [findR_ne e] at hp
       rw [rget_rputS_ne _ _ e]
       by_cases e' : pb = p
       ·subst e'; rw [findR_same] at hp; cases hp; exact rget_rputS_same _ _ _
       ·rw [findR_ne e'] at hp; simp [findR] at hp
     ·by_cases e : px = p
      ·subst e; exact ⟨x,findR_same⟩
      ·rw [findR_ne e]
       by_cases e' : pb = p
       ·subst e'; exact ⟨_,findR_same⟩
       ·simp at hp; rcases hp with hp | hp
        ·exact absurd hp.symm e
        ·exact absurd hp.symm e'
    have hT : TR ρ A.ntm φ (rputS px (rputS pb rany (.ptr box 0)) x) { tmps:=tmps.setIfInBounds A.par X,defers:=[] }:={
     size:=by simp [hsz]
     defers:=rfl
     at_:=fun s p hs hp=>by
      show rel ρ φ _ ((tmps.setIfInBounds A.par X).getD s undef)
      by_cases e : A.par = s
      ·subst e
       rw [hpx] at hp; cases hp
       rw [rget_rputS_same,Array.getD_eq_getD_getElem?,Array.getElem?_setIfInBounds_self_of_lt (by omega)]
       exact hX
      ·rw [rget_rputS_ne _ _ (fun e'=>e (K2.ofN_inj hpx (by rw [e']; exact hp))),Array.getD_eq_getD_getElem?,Array.getElem?_setIfInBounds_ne e,← Array.getD_eq_getD_getElem?]
       by_cases e2 : A.box = s
       ·subst e2
        rw [hpb] at hp; cases hp
        rw [rget_rputS_same]; exact hbox
       ·rw [rget_rputS_ne _ _ (fun e'=>e2 (K2.ofN_inj hpb (by rw [e']; exact hp))),rget_rany]
        simp only [rel] }
    have hs : (ops2K [] cf2 al [(px,x),(pb,.ptr box 0)] sempty h n fun env t h n=>ops2K [] cf2 bl env t h n fun _ _ h n=>.rv (.bool true) h n).sat Φ:=hs
    obtain ⟨env1,t1,t1',h1,n1,e1,ri1,H1⟩:=ops2K_goodR (B:=B) (ops:=oa) hρ hcf h2 hal ok1 ri (R.sat_good hs)
    rw [e1] at hs
    obtain ⟨env2,t2,t2',h2',n2,e2,ri2,H2⟩:=ops2K_goodR (B:=B) (ops:=ob) hρ hcf h2 hbl ok2 ri1 (R.sat_good hs)
    rw [e2] at hs
    have hs : Φ (.rv (.bool true) h2' n2):=hs
    refine roundIn_of_wpIn trivial ?_
    rw [hasg,hbod]
    have c1:=wpChain_in (l:=some l) (n:=0) (r:=[]) (.inr (noDefer_mem nd1)) (H1 φ _ w hT g (Exit.then (fun a₁ w₁=>∃ w₂,(Instr.beginRound l).run P w₁ = .ok () w₂ ∧ (Code.block j (.region k ob false)).wpIn (Fence.wide.inRound l) 0 P (roundPost P l (fun e w'=>e = .returned (.bool true) ∧
      ∃ v h1 n1 φ',v = .bool true ∧ Φ (.rv v h1 n1) ∧ Fr h h1 φ φ' n n1 w w' ∧ Gam ρ B h1 n1 φ' w')) a₁ w₂) (fun _ _ _=>False)) (wpListIn (fen (some l)) 0 P oa _ []) fun φ1 a1 w1 f1 g1 T1=>wpListIn_nil (F:=fen (some l)) ?_)
    ·rw [List.append_nil] at c1
     exact wpIn_region_list c1
    ·have u1:=u.step hlt f1
     have hl1 : w1.heap[l]? = some (.loop (recOf A fn tmps D)):=(f1.old l hlt u).trans hl
     refine ⟨_,run_beginRound hl1 rfl,wpIn_block (wpIn_region_list ?_)⟩
     have g1':=g1.poke u1 (.loop { recOf A fn tmps D with state:=.busy }) (fun c e fr h=>by rw [hl1] at h; cases h)
     have c2:=wpChain_in (l:=some l) (n:=0) (r:=[]) (.inr (noDefer_mem nd2)) (H2 φ1 a1 _ T1 g1' (Exit.inBlock j (roundPost P l (fun e w'=>e = .returned (.bool true) ∧
      ∃ v h1 n1 φ',v = .bool true ∧ Φ (.rv v h1 n1) ∧ Fr h h1 φ φ' n n1 w w' ∧ Gam ρ B h1 n1 φ' w'))) (wpListIn (fen (some l)) 0 P ob _ []) fun φ2 a2 w2 f2 g2 T2=>wpListIn_nil (F:=fen (some l)) ?_)
     ·rw [List.append_nil] at c2; exact c2
     ·have hlt1 : l < (w1.putObj l (.loop { recOf A fn tmps D with state:=.busy })).heap.size:=by rw [World.putObj_size]; have:=f1.size; omega
      have u2:=u1.step hlt1 f2
      have hl2 : w2.heap[l]? = some (.loop { recOf A fn tmps D with state:=.busy }):=(f2.old l hlt1 u1).trans (World.putObj_heap_same (by rwa [World.putObj_size] at hlt1))
      exact ⟨_,_,run_endRound none hl2,rfl,_,h2',n2,φ2,rfl,hs,Fr.trans f1 (f2.around hl1),g2.poke u2 _ (fun c e fr h=>by rw [hl2] at h; cases h)⟩
   ·cases hrd
  ·cases hrd
 ·cases hrd
def HasBody (P : Program) (g : FuncId) : Prop:=∃ fn c,P.funcs[g]? = some fn ∧ fn.body = some c ∧ (fn.name == "runtime.NumGoroutine") = false
theorem unK_good {l : List V} {κ : V → List V → R} (hg : (unK l κ).good) : ∃ x xs,l = x :: xs ∧ unK l κ = κ x xs:=by
 cases l with
 | nil=>exact hg.elim
 | cons x xs=>exact ⟨x,xs,rfl,rfl⟩
theorem nlK_good {l : List V} {κ : R} (hg : (nlK l κ).good) : l = [] ∧ nlK l κ = κ:=by
 cases l with
 | nil=>exact ⟨rfl,rfl⟩
 | cons x xs=>exact hg.elim
theorem nilSlK_good {v : V} {κ : R} (hg : (nilSlK v κ).good) : v = .nil .sl ∧ nilSlK v κ = κ:=by
 cases v with
 | nil u=>cases u with
  | sl=>exact ⟨rfl,rfl⟩
  | _=>exact hg.elim
 | _=>exact hg.elim
theorem asFnK_good {v : V} {κ : Nat → List V → R} (hg : (asFnK v κ).good) : ∃ f l,v = .fn f l ∧ asFnK v κ = κ f l:=by
 cases v with
 | fn f l=>exact ⟨f,l,rfl,rfl⟩
 | _=>exact hg.elim
theorem lpK_good {o : OOb} {κ : R} (hg : (lpK o κ).good) : (∃ f b,o = some (.lp f b)) ∧ lpK o κ = κ:=by
 cases o with
 | none=>exact hg.elim
 | some ob=>cases ob with
  | lp f b=>exact ⟨⟨f,b,rfl⟩,rfl⟩
  | _=>exact hg.elim
theorem memFK_good {g : Nat} : ∀ {l : List Nat} {κ : R},(memFK g l κ).good → g ∈ l ∧ memFK g l κ = κ
 | [],κ,hg=>hg.elim
 | x :: l,κ,hg=>by
  have hg : R.good (br (Nat.beq x g) κ (memFK g l κ)):=hg
  show _ ∧ br (Nat.beq x g) κ (memFK g l κ) = κ
  cases hb : Nat.beq x g with
  | true=>exact ⟨by rw [Nat.eq_of_beq_eq_true hb]; exact List.mem_cons_self ..,rfl⟩
  | false =>
   rw [hb] at hg
   obtain ⟨h1,h2⟩:=memFK_good (show R.good (memFK g l κ) from hg)
   exact ⟨List.mem_cons_of_mem _ h1,h2⟩
theorem wpIn_value {o : Oper} {a : Act} {w w' : World} {x : Value} {K : Act → World → Prop} {Q : Exit → Act → World → Prop} (hr : (execOp a.eval o).run P w = .ok (.value x) w') (hK : K (a.put o.dst x) w') : o.wpIn Fence.wide 0 P a w K Q :=
 wp_in (l:=none) (.inl rfl) (fun _ _ h=>h) (show o.wp P a w K Q by unfold Oper.wp; rw [hr]; exact hK)
theorem ap_ok {f : FuncId} {its : List Nat} {A : ApC} (hA : ρ.ap f = some A) (hsh : apOf P f = some A) (hits : ∀ g ∈ its,HasBody P g) {cf : CF} {cf2 : CF2} (hcf : CallT P ρ B cf) (h2 : ∀ f,cf2 (fnKey f) = cf f) {args : List V} {Φ : R → Prop}
  (hr : (apLK f its cf2 args h n).sat Φ) {φ : Emb} {w : World} {xs : Array Value} (g : Gam ρ B h n φ w) (hxs : rels ρ φ args xs.toList) :
  Runs P f xs w fun x w'=>∃ v h1 n1 φ',Φ (.rv v h1 n1) ∧ Fr h h1 φ φ' n n1 w w' ∧ Gam ρ B h1 n1 φ' w' ∧ rel ρ φ' v x:=by
 unfold apOf at hsh
 split at hsh
 next fn hfn =>
  split at hsh
  next i0 r0 i1 r1 b0 s6 ps asg bod i4 r4 hbody =>
   split at hsh
   next o1 o2 o3 o4 o5 par s4 e0 e1 e4 eps ers =>
    split at hsh
    next tS s0 c2 s1 tL s2 s12 p1 p2 p3 p4 p5 =>
     split at hsh
     next hc =>
      obtain ⟨hname,hnt,rfl,rfl,rfl,rfl,rfl,rfl,d1,d2,d3,d4,d5,g1,g2,g3,g4,g5,hagg⟩:=hc
      cases hsh
      have hname : (fn.name == "runtime.NumGoroutine") = false:=hname
      -- the arguments
      unfold apLK at hr
      obtain ⟨v,l,rfl,q1⟩:=unK_good (R.sat_good hr)
      rw [q1] at hr
      obtain ⟨s,l,rfl,q2⟩:=unK_good (R.sat_good hr)
      rw [q2] at hr
      obtain ⟨rfl,q3⟩:=nlK_good (R.sat_good hr)
      rw [q3] at hr
      obtain ⟨rfl,q4⟩:=nilSlK_good (R.sat_good hr)
      rw [q4] at hr
      obtain ⟨it,caps,rfl,q5⟩:=asFnK_good (R.sat_good hr)
      rw [q5] at hr
      obtain ⟨hmem,q6⟩:=memFK_good (R.sat_good hr)
      rw [q6,hputR_eq,hput_eq] at hr
      rcases K4.nx_eq n _ with ⟨m,e⟩ | ⟨n1,hn1,e⟩
      ·rw [e] at hr; exact hr.elim
      rw [e,hputR_eq,hput_eq] at hr
      rcases K4.nx_eq n1 _ with ⟨m,e⟩ | ⟨n2,hn2,e'⟩
      ·rw [e] at hr; exact hr.elim
      rw [e'] at hr
      have hr:=tcallK_sat hr
      rw [h2] at hr
      obtain ⟨X0,l0,hx0,r0',hl0⟩:=rels_cons.1 hxs
      obtain ⟨X1,l1,rfl,r1',hl1⟩:=rels_cons.1 hl0
      have hl1:=rels_nil.1 hl1
      subst hl1
      have hX0:=rel_nil r0'
      obtain ⟨cs,hX1,rcs⟩:=rel_fn r1'
      have hps : ps = #[par]:=by cases ps; simp at eps; rw [eps]
      have hres : fn.results = #[.tmp 4]:=by cases hh : fn.results with | mk l=>rw [hh] at ers; simp at ers; rw [ers]
      -- the box
      obtain ⟨ga,fa⟩:=alloc_cells g (n':=n1) hn1 (e:=tS) (fr:=(0,0)) (c:=#[X0]) (cs:=.l [.nil .sl]) (by simp [Cs.len]) (frz0 _)
       (by have:=csOK_list (ρ:=ρ) (φ:=φ) (l:=[.nil .sl]) (xs:=[X0]) (rels_cons.2 ⟨X0,[],rfl,r0',rels_nil.2 rfl⟩) (by simp [hX0,nilOf,Value.oneCell']); simpa using this)
      generalize hW0 : w.alloc (.cells #[X0] tS (0,0)) = W0 at ga fa
      have hb0 : W0.heap[w.heap.size]? = some (.cells #[X0] tS (0,0)):=by rw [← hW0]; exact World.alloc_heap_new w _
      have gb:=ga.push (.deferred (some []))
      have fb:=Fr.trans fa (Fr.push (h:=hputS n h (some (.c (.l [.nil .sl]) false none))) (n:=n1) (φ:=updE φ n (w.heap.size,0,(#[X0] : Array Value).size)) (.deferred (some [])))
      have hs0 : W0.heap.size = w.heap.size + 1:=by rw [← hW0,World.size_alloc]
      generalize htm : ((((#[X0,X1] : Array Value) ++ Array.replicate (fn.ntmps - 2) undef).setIfInBounds 2 (.pointer (some ⟨w.heap.size,0,none⟩))).setIfInBounds 4 c2).setIfInBounds 6 X1 = tm
      have htsz : tm.size = 13:=by rw [← htm,hnt]; simp
      have ht2 : tm.getD 2 undef = .pointer (some ⟨w.heap.size,0,none⟩):=by rw [← htm,hnt]; simp [Array.getD_eq_getD_getElem?]
      have ht6 : tm.getD 6 undef = X1:=by rw [← htm,hnt]; simp [Array.getD_eq_getD_getElem?]
      intro o a K Q hK
      have hcf' : (callFunc f #[X0,X1]).run P w = .ok (.enter f #[X0,X1]) w:=by
       have hname' : fn.name ≠ "runtime.NumGoroutine":=by simpa using hname
       simp [callFunc,hfn,hname',hbody]
      have hxe : xs = #[X0,X1]:=by cases xs; simp at hx0; rw [hx0]
      rw [hxe,hcf']
      refine (callsIn_wide (n:=0)).1 (callsIn_of_wp_marks hfn hbody trivial ?_ rfl)
      have ev0 : Act.eval { tmps:=(#[X0,X1] : Array Value) ++ Array.replicate (fn.ntmps - (#[X0,X1] : Array Value).size) undef,defers:=[] } (.tmp 0) = X0:=by
       simp [Act.eval,Array.getD_eq_getD_getElem?,Array.getElem?_append]
      have hcl : X0.cells = #[X0]:=by rw [hX0]; rfl
      refine wpIn_seq (wpIn_region_list ?_)
      rw [e0]
      refine wpListIn_plain g1 fun K1 hK1=>wpIn_value (x:=.pointer (some ⟨w.heap.size,0,none⟩)) (w':=W0) (by rw [← hW0]; simp only [execOp,p1,ev0]; simp [Instr.box,newVar,run_newRow,hcl]) (hK1 _ _ ?_)
      refine wpListIn_plain g2 fun K2 hK2=>wpIn_value (x:=c2) (w':=W0) (by simp [execOp,p2,Act.eval]) (hK2 _ _ ?_)
      refine wpListIn_nil ?_
      refine wpIn_seq (wpIn_seq (wpIn_region_list ?_))
      rw [e1]
      refine wpListIn_plain g3 fun K3 hK3=>wpIn_value (x:=X1) (w':=W0) (by simp only [execOp,p3,Act.eval,Act.put,d1,d2,hnt]; simp [Array.getD_eq_getD_getElem?,Array.getElem?_setIfInBounds]) (hK3 _ _ ?_)
      refine wpListIn_nil ?_
      refine wpIn_block (wpIn_rangeFunc fun fn' _=>?_)
      have hact : ((({ tmps:=(#[X0,X1] : Array Value) ++ Array.replicate (fn.ntmps - (#[X0,X1] : Array Value).size) undef,defers:=[] } : Act).put o1.dst (.pointer (some ⟨w.heap.size,0,none⟩))).put o2.dst c2).put o3.dst X1 = { tmps:=tm,defers:=[] }:=by
       rw [d1,d2,d3,← htm]; rfl
      rw [hact]
      generalize hWb : W0.alloc (.deferred (some [])) = Wb at gb fb
      have hsb : Wb.heap.size = w.heap.size + 2:=by rw [← hWb,World.size_alloc,hs0]
      have hDb : Wb.heap[w.heap.size + 1]? = some (.deferred (some [])):=by rw [← hWb,← hs0]; exact World.alloc_heap_new _ _
      have hn1' : updE φ n (w.heap.size,0,(#[X0] : Array Value).size) n1 = none:=gb.at_n
      have gc:=gb.alloc (p:=n1) (n':=n2) hn1' (by omega) (by omega) (.lp f n) rfl (.loop (recOf ⟨asg,bod,par,2,13⟩ fn' tm W0.heap.size)) 0
       (fun φ' hle w' hw'=>⟨rfl,⟨asg,bod,par,2,13⟩,fn',tm,W0.heap.size,hA,hw',htsz,by rw [ht2]; exact rel_mono hle rel_ptr_new⟩)
      have fc:=Fr.trans fb (Fr.alloc (h:=hputS n h (some (.c (.l [.nil .sl]) false none))) (w:=Wb) (n:=n1) (n':=n2) (p:=n1) hn1' (by omega) (Nat.le_refl _) (by omega) (some (.lp f n)) (.loop (recOf ⟨asg,bod,par,2,13⟩ fn' tm W0.heap.size)) 0)
      generalize hWc : Wb.alloc (.loop (recOf ⟨asg,bod,par,2,13⟩ fn' tm W0.heap.size)) = Wc at gc fc
      have hsc : Wc.heap.size = w.heap.size + 3:=by rw [← hWc,World.size_alloc,hsb]
      have hDc : Wc.heap[w.heap.size + 1]? = some (.deferred (some [])):=by rw [← hWc,Below.heap_alloc _ _ _ (by omega)]; exact hDb
      have hφn : φ n = none:=g.at_n
      have hφn1 : φ n1 = none:=by
       cases hx : φ n1 with
       | none=>rfl
       | some x=>have:=g.dom n1 x hx; omega
      generalize hφc : updE (updE φ n (w.heap.size,0,(#[X0] : Array Value).size)) n1 (Wb.heap.size,0,0) = φc at gc fc
      have hcn1 : φc n1 = some (w.heap.size + 2,0,0):=by rw [← hφc,updE_same,hsb]
      have hnn : n1 ≠ n:=fun e=>by rw [e] at hn1; omega
      have hcn : φc n = some (w.heap.size,0,1):=by rw [← hφc,updE_ne hnn,updE_same]; rfl
      have huD : Unc φc (hputS n1 (hputS n h (some (.c (.l [.nil .sl]) false none))) (some (.lp f n))) (w.heap.size + 1):=fun q s tot hq=>by
       rw [← hφc] at hq
       rcases updE_inv hq with ⟨_,e⟩ | ⟨_,hq⟩
       ·simp only [Prod.mk.injEq] at e; omega
       ·rcases updE_inv hq with ⟨_,e⟩ | ⟨_,hq⟩
        ·simp only [Prod.mk.injEq] at e; omega
        ·have:=(g.blk q _ _ _ hq).2; omega
      obtain ⟨fng,cg,hg1,hg2,hg3⟩:=hits it hmem
      have call:=calls_of_runs hg1 hg2 (by simpa using hg3) (hcf it _ _ n2 _ hr φc Wc (#[.func (.yield (w.heap.size + 2)) #[] #[]] ++ cs) gc (by
       rw [Array.toList_append]
       exact rels_cons.2 ⟨_,cs.toList,rfl,by simp only [rel]; exact ⟨_,_,_,hcn1,rfl⟩,by rw [← hφc]; exact rels_mono (Emb.le_trans (updE_le hφn) (updE_le hn1')) rcs⟩))
      refine ⟨w.heap.size + 2,[{ target:=.collected (w.heap.size + 1),args:=#[] }],Wc,{ target:=.fn (.func it) cs,args:=#[.func (.yield (w.heap.size + 2)) #[] #[]] },Wc,it,#[.func (.yield (w.heap.size + 2)) #[] #[]] ++ cs,Wc,?_,?_,?_,?_,fun h=>(by cases h),?_⟩
      ·have:=run_enterLoop_outer (P:=P) (w:=W0) fn' tm ps asg bod
       rw [hs0] at this
       show (Instr.enterLoop fn' tm ps asg bod none).run P W0 = _
       rw [this,hWb,hps,← hWc,hs0]; rfl
      ·have e6 : Act.eval { tmps:=tm,defers:=[] } (.tmp 6) = .func (.func it) #[] cs:=by show tm.getD 6 undef = _; rw [ht6,hX1]
       simp only [resolve,rangeCall,e6,Deferred.ofValue]
       simp [Act.eval]
      ·intro _ _; trivial
      ·simp [invoke,callFunc,hg1,hg2,show fng.name ≠ "runtime.NumGoroutine" by simpa using hg3]
      ·refine (callsIn_wide (n:=0)).2 (call.mono fun e w3 he=>?_)
       cases e with
       | panicked c=>exact he.elim
       | outgrown=>exact he.elim
       | returned u =>
       obtain ⟨v,h3,n3,φ3,hΦ,f3,g3',_⟩ : ∃ v h1 n1 φ',CPost _ Φ (.rv v h1 n1) ∧ Fr _ h1 φc φ' n2 n1 Wc w3 ∧ Gam ρ B h1 n1 φ' w3 ∧ rel ρ φ' v u:=he
       have hΦ : (hgetR n1 h3 fun o=>lpK o (obR n h3 fun cs _ _=>getC cs 0 fun sv=>hputR n h3 none fun h=>hputR n1 h none fun h=>.rv sv h n3)).sat Φ:=hΦ
       rw [hgetR_eq] at hΦ
       obtain ⟨⟨f',b',hlp⟩,q7⟩:=lpK_good (R.sat_good hΦ)
       rw [q7,obR_eq] at hΦ
       obtain ⟨cs3,sup3,prev3,hbx,q8⟩:=obK_good (R.sat_good hΦ)
       rw [q8] at hΦ
       obtain ⟨sv,hsv,q9⟩:=getC_good (R.sat_good hΦ)
       rw [q9,hputR_eq,hput_eq,hputR_eq,hput_eq] at hΦ
       have hΦ : Φ (.rv sv (hputS n1 (hputS n h3 none) none) n3):=hΦ
       have h3n:=f3.ext _ _ hcn
       have h3n1:=f3.ext _ _ hcn1
       obtain ⟨_,A3,fn3,tm3,D3,_,hrec,_,_⟩:=g3'.obj n1 _ _ _ _ hlp h3n1
       obtain ⟨c3,e3,fr3,k1,k2,k3,k4,k5⟩:=g3'.obj n _ _ _ _ hbx h3n
       obtain ⟨SV,hSV,rSV,_⟩:=k5 0 sv hsv
       have hD3 : w3.heap[w.heap.size + 1]? = some (.deferred (some [])):=(f3.old _ (by omega) huD).trans hDc
       have uD3:=huD.step (by omega) f3
       have ul3 : Unc φ3 (hputS n1 (hputS n h3 none) none) (w.heap.size + 2):=fun q s tot hq=>by
        by_cases e : n1 = q
        ·subst e; exact hget_hputS_same _ _ _
        ·rw [hget_hputS_ne _ _ e]
         by_cases e' : n = q
         ·subst e'; exact hget_hputS_same _ _ _
         ·rw [hget_hputS_ne _ _ e']
          cases hq' : hget q h3 with
          | none=>rfl
          | some o2 =>
           rcases g3'.sep n1 q _ o2 _ _ _ s tot e hlp hq' h3n1 hq with e2 | e2
           ·cases e2
           ·have:=g3'.sup q n1 o2 _ _ s tot _ _ hq' e2 hlp hq h3n1; cases this
       refine ⟨none,w3.putObj (w.heap.size + 2) (.loop { recOf A3 fn3 tm3 D3 with state:=.exhausted }),run_endLoop hrec (by simp),?_⟩
       refine wpIn_seq (wpIn_region_list ?_)
       rw [e4]
       generalize hw4 : w3.putObj (w.heap.size + 2) (.loop { recOf A3 fn3 tm3 D3 with state:=.exhausted }) = w4
       have hb4 : w4.heap[w.heap.size]? = some (.cells c3 e3 fr3):=by rw [← hw4,World.putObj_heap_other (by omega)]; exact k1
       have hD4 : w4.heap[w.heap.size + 1]? = some (.deferred (some [])):=by rw [← hw4,World.putObj_heap_other (by omega)]; exact hD3
       have hld : (execOp (Act.eval { tmps:=tm,defers:=[{ target:=.collected (w.heap.size + 1),args:=#[] }] ++ [] }) o4).run P w4 = .ok (.value SV) w4:=by
        have e2 : Act.eval { tmps:=tm,defers:=[{ target:=.collected (w.heap.size + 1),args:=#[] }] ++ [] } (.tmp 2) = .pointer (some ⟨w.heap.size,0,none⟩):=ht2
        simp only [execOp,p4,e2]
        simp [Instr.loadAt,Instr.sureAddr,loadVar,run_isAgg hagg,cell_at hb4 hSV]
       refine wpListIn_plain g4 fun K4 hK4=>wpIn_value hld (hK4 _ _ ?_)
       refine wpListIn_plain g5 fun K5 hK5=>wpIn_value (x:=SV) (w':=w4) (by
        simp only [execOp,p5,Act.eval,Act.put,d4]; simp [Array.getD_eq_getD_getElem?,htsz]) (hK5 _ _ ?_)
       refine wpListIn_nil (wpIn_ret ?_)
       have take:=run_takeDeferred (P:=P) hD4
       rw [d4,d5]
       show LeavesInM Fence.wide 0 P fn _ _ [{ target:=.collected (w.heap.size + 1),args:=#[] }] .returning w4
       unfold LeavesInM
       refine ⟨(by intro h; cases h),.inl ⟨w.heap.size + 1,_,rfl,take,?_⟩⟩
       unfold LeavesInM LeavesIn
       refine ⟨SV,?_,?_⟩
       ·simp [results,hres,Act.put,htsz,Array.getD_eq_getD_getElem?]
       ·have hna : ∀ q,φ q ≠ none → hget q (hputS n1 (hputS n h3 none) none) = hget q h3:=fun q hq=>by
         rw [hget_hputS_ne _ _ (fun e : n1 = q=>hq (by rw [← e]; exact hφn1)),hget_hputS_ne _ _ (fun e : n = q=>hq (by rw [← e]; exact hφn))]
        have fz:=((Fr.trans fc f3).show hna).poke (l:=w.heap.size + 2) (.loop { recOf A3 fn3 tm3 D3 with state:=.exhausted }) (by omega)
        have gz:=(g3'.aside (p:=n)).aside (p:=n1)
        have gz:=gz.poke ul3 (.loop { recOf A3 fn3 tm3 D3 with state:=.exhausted }) (fun c e fr h=>by rw [hrec] at h; cases h)
        rw [hw4] at fz gz
        have uDz : Unc φ3 (hputS n1 (hputS n h3 none) none) (w.heap.size + 1):=fun q s tot hq=>by
         by_cases e : n1 = q
         ·subst e; exact hget_hputS_same _ _ _
         ·rw [hget_hputS_ne _ _ e]
          by_cases e' : n = q
          ·subst e'; exact hget_hputS_same _ _ _
          ·rw [hget_hputS_ne _ _ e']; exact uD3 q s tot hq
        exact hK SV _ ⟨sv,_,n3,φ3,hΦ,fz.poke _ (by omega),gz.poke uDz _ (fun c e fr h=>by rw [hD4] at h; cases h),rSV⟩
     next=>cases hsh
    next=>cases hsh
   next=>cases hsh
  next=>cases hsh
 next=>cases hsh
end
end Go.Ev

namespace Go.Ev
set_option linter.unusedVariables false
inductive Ent where
 | code (entry : List V → (S → R) → R) (body : CF2 → S → Heap → K4 → R) (res : S → Heap → K4 → R)
 | prim (p : Prim)
 | br (k : Nat) (entry : List V → (S → R) → R) (body : CF2 → S → Heap → K4 → R) (res : S → Heap → K4 → R)
 | ap (f : Nat) (its : List Nat) (rd : Rd)
 | tree (p : Prim)
abbrev OEnt:=Option Ent
def Ent.toBr (k : Nat) (e : Ent) : Ent:=@Ent.rec (fun _=>Ent) (fun en bo re=>.br k en bo re) (fun p=>.prim p) (fun k en bo re=>.br k en bo re) (fun f its rd=>.ap f its rd) (fun p=>.tree p) e
inductive FA where
 | mk (c0 c1 c2 c3 c4 c5 c6 c7 c8 c9 ca cb cc cd ce cf : OEnt)
def FA.sel (d : D) (p : FA) : OEnt :=
 @FA.rec (fun _=>OEnt) (fun c0 c1 c2 c3 c4 c5 c6 c7 c8 c9 ca cb cc cd ce cf=>@D.rec (fun _=>OEnt) c0 c1 c2 c3 c4 c5 c6 c7 c8 c9 ca cb cc cd ce cf d) p
def fag0 (p : FA) (k : OEnt → R) : R:=@FA.rec (fun _=>R) (fun c0 c1 c2 c3 c4 c5 c6 c7 c8 c9 ca cb cc cd ce cf=>k c0) p
def fag1 (p : FA) (k : OEnt → R) : R:=@FA.rec (fun _=>R) (fun c0 c1 c2 c3 c4 c5 c6 c7 c8 c9 ca cb cc cd ce cf=>k c1) p
def fag2 (p : FA) (k : OEnt → R) : R:=@FA.rec (fun _=>R) (fun c0 c1 c2 c3 c4 c5 c6 c7 c8 c9 ca cb cc cd ce cf=>k c2) p
def fag3 (p : FA) (k : OEnt → R) : R:=@FA.rec (fun _=>R) (fun c0 c1 c2 c3 c4 c5 c6 c7 c8 c9 ca cb cc cd ce cf=>k c3) p
def fag4 (p : FA) (k : OEnt → R) : R:=@FA.rec (fun _=>R) (fun c0 c1 c2 c3 c4 c5 c6 c7 c8 c9 ca cb cc cd ce cf=>k c4) p
def fag5 (p : FA) (k : OEnt → R) : R:=@FA.rec (fun _=>R) (fun c0 c1 c2 c3 c4 c5 c6 c7 c8 c9 ca cb cc cd ce cf=>k c5) p
def fag6 (p : FA) (k : OEnt → R) : R:=@FA.rec (fun _=>R) (fun c0 c1 c2 c3 c4 c5 c6 c7 c8 c9 ca cb cc cd ce cf=>k c6) p
def fag7 (p : FA) (k : OEnt → R) : R:=@FA.rec (fun _=>R) (fun c0 c1 c2 c3 c4 c5 c6 c7 c8 c9 ca cb cc cd ce cf=>k c7) p
def fag8 (p : FA) (k : OEnt → R) : R:=@FA.rec (fun _=>R) (fun c0 c1 c2 c3 c4 c5 c6 c7 c8 c9 ca cb cc cd ce cf=>k c8) p
def fag9 (p : FA) (k : OEnt → R) : R:=@FA.rec (fun _=>R) (fun c0 c1 c2 c3 c4 c5 c6 c7 c8 c9 ca cb cc cd ce cf=>k c9) p
def fag10 (p : FA) (k : OEnt → R) : R:=@FA.rec (fun _=>R) (fun c0 c1 c2 c3 c4 c5 c6 c7 c8 c9 ca cb cc cd ce cf=>k ca) p
def fag11 (p : FA) (k : OEnt → R) : R:=@FA.rec (fun _=>R) (fun c0 c1 c2 c3 c4 c5 c6 c7 c8 c9 ca cb cc cd ce cf=>k cb) p
def fag12 (p : FA) (k : OEnt → R) : R:=@FA.rec (fun _=>R) (fun c0 c1 c2 c3 c4 c5 c6 c7 c8 c9 ca cb cc cd ce cf=>k cc) p
def fag13 (p : FA) (k : OEnt → R) : R:=@FA.rec (fun _=>R) (fun c0 c1 c2 c3 c4 c5 c6 c7 c8 c9 ca cb cc cd ce cf=>k cd) p
def fag14 (p : FA) (k : OEnt → R) : R:=@FA.rec (fun _=>R) (fun c0 c1 c2 c3 c4 c5 c6 c7 c8 c9 ca cb cc cd ce cf=>k ce) p
def fag15 (p : FA) (k : OEnt → R) : R:=@FA.rec (fun _=>R) (fun c0 c1 c2 c3 c4 c5 c6 c7 c8 c9 ca cb cc cd ce cf=>k cf) p
def FA.selK (d : D) : FA → (OEnt → R) → R :=
 @D.rec (fun _=>FA → (OEnt → R) → R) fag0 fag1 fag2 fag3 fag4 fag5 fag6 fag7 fag8 fag9 fag10 fag11 fag12 fag13 fag14 fag15 d
theorem FA.selK_eq (d : D) (p : FA) (k : OEnt → R) : FA.selK d p k = k (FA.sel d p):=by
 cases d <;> cases p <;> rfl
inductive FB where
 | mk (c0 c1 c2 c3 c4 c5 c6 c7 c8 c9 ca cb cc cd ce cf : FA)
def FB.sel (d : D) (p : FB) : FA :=
 @FB.rec (fun _=>FA) (fun c0 c1 c2 c3 c4 c5 c6 c7 c8 c9 ca cb cc cd ce cf=>@D.rec (fun _=>FA) c0 c1 c2 c3 c4 c5 c6 c7 c8 c9 ca cb cc cd ce cf d) p
def fbg0 (p : FB) (k : FA → R) : R:=@FB.rec (fun _=>R) (fun c0 c1 c2 c3 c4 c5 c6 c7 c8 c9 ca cb cc cd ce cf=>k c0) p
def fbg1 (p : FB) (k : FA → R) : R:=@FB.rec (fun _=>R) (fun c0 c1 c2 c3 c4 c5 c6 c7 c8 c9 ca cb cc cd ce cf=>k c1) p
def fbg2 (p : FB) (k : FA → R) : R:=@FB.rec (fun _=>R) (fun c0 c1 c2 c3 c4 c5 c6 c7 c8 c9 ca cb cc cd ce cf=>k c2) p
def fbg3 (p : FB) (k : FA → R) : R:=@FB.rec (fun _=>R) (fun c0 c1 c2 c3 c4 c5 c6 c7 c8 c9 ca cb cc cd ce cf=>k c3) p
def fbg4 (p : FB) (k : FA → R) : R:=@FB.rec (fun _=>R) (fun c0 c1 c2 c3 c4 c5 c6 c7 c8 c9 ca cb cc cd ce cf=>k c4) p
def fbg5 (p : FB) (k : FA → R) : R:=@FB.rec (fun _=>R) (fun c0 c1 c2 c3 c4 c5 c6 c7 c8 c9 ca cb cc cd ce cf=>k c5) p
def fbg6 (p : FB) (k : FA → R) : R:=@FB.rec (fun _=>R) (fun c0 c1 c2 c3 c4 c5 c6 c7 c8 c9 ca cb cc cd ce cf=>k c6) p
def fbg7 (p : FB) (k : FA → R) : R:=@FB.rec (fun _=>R) (fun c0 c1 c2 c3 c4 c5 c6 c7 c8 c9 ca cb cc cd ce cf=>k c7) p
def fbg8 (p : FB) (k : FA → R) : R:=@FB.rec (fun _=>R) (fun c0 c1 c2 c3 c4 c5 c6 c7 c8 c9 ca cb cc cd ce cf=>k c8) p
def fbg9 (p : FB) (k : FA → R) : R:=@FB.rec (fun _=>R) (fun c0 c1 c2 c3 c4 c5 c6 c7 c8 c9 ca cb cc cd ce cf=>k c9) p
def fbg10 (p : FB) (k : FA → R) : R:=@FB.rec (fun _=>R) (fun c0 c1 c2 c3 c4 c5 c6 c7 c8 c9 ca cb cc cd ce cf=>k ca) p
def fbg11 (p : FB) (k : FA → R) : R:=@FB.rec (fun _=>R) (fun c0 c1 c2 c3 c4 c5 c6 c7 c8 c9 ca cb cc cd ce cf=>k cb) p
def fbg12 (p : FB) (k : FA → R) : R:=@FB.rec (fun _=>R) (fun c0 c1 c2 c3 c4 c5 c6 c7 c8 c9 ca cb cc cd ce cf=>k cc) p
def fbg13 (p : FB) (k : FA → R) : R:=@FB.rec (fun _=>R) (fun c0 c1 c2 c3 c4 c5 c6 c7 c8 c9 ca cb cc cd ce cf=>k cd) p
def fbg14 (p : FB) (k : FA → R) : R:=@FB.rec (fun _=>R) (fun c0 c1 c2 c3 c4 c5 c6 c7 c8 c9 ca cb cc cd ce cf=>k ce) p
def fbg15 (p : FB) (k : FA → R) : R:=@FB.rec (fun _=>R) (fun c0 c1 c2 c3 c4 c5 c6 c7 c8 c9 ca cb cc cd ce cf=>k cf) p
def FB.selK (d : D) : FB → (FA → R) → R :=
 @D.rec (fun _=>FB → (FA → R) → R) fbg0 fbg1 fbg2 fbg3 fbg4 fbg5 fbg6 fbg7 fbg8 fbg9 fbg10 fbg11 fbg12 fbg13 fbg14 fbg15 d
theorem FB.selK_eq (d : D) (p : FB) (k : FA → R) : FB.selK d p k = k (FB.sel d p):=by
 cases d <;> cases p <;> rfl
inductive FC where
 | mk (c0 c1 c2 c3 c4 c5 c6 c7 c8 c9 ca cb cc cd ce cf : FB)
def FC.sel (d : D) (p : FC) : FB :=
 @FC.rec (fun _=>FB) (fun c0 c1 c2 c3 c4 c5 c6 c7 c8 c9 ca cb cc cd ce cf=>@D.rec (fun _=>FB) c0 c1 c2 c3 c4 c5 c6 c7 c8 c9 ca cb cc cd ce cf d) p
def fcg0 (p : FC) (k : FB → R) : R:=@FC.rec (fun _=>R) (fun c0 c1 c2 c3 c4 c5 c6 c7 c8 c9 ca cb cc cd ce cf=>k c0) p
def fcg1 (p : FC) (k : FB → R) : R:=@FC.rec (fun _=>R) (fun c0 c1 c2 c3 c4 c5 c6 c7 c8 c9 ca cb cc cd ce cf=>k c1) p
def fcg2 (p : FC) (k : FB → R) : R:=@FC.rec (fun _=>R) (fun c0 c1 c2 c3 c4 c5 c6 c7 c8 c9 ca cb cc cd ce cf=>k c2) p
def fcg3 (p : FC) (k : FB → R) : R:=@FC.rec (fun _=>R) (fun c0 c1 c2 c3 c4 c5 c6 c7 c8 c9 ca cb cc cd ce cf=>k c3) p
def fcg4 (p : FC) (k : FB → R) : R:=@FC.rec (fun _=>R) (fun c0 c1 c2 c3 c4 c5 c6 c7 c8 c9 ca cb cc cd ce cf=>k c4) p
def fcg5 (p : FC) (k : FB → R) : R:=@FC.rec (fun _=>R) (fun c0 c1 c2 c3 c4 c5 c6 c7 c8 c9 ca cb cc cd ce cf=>k c5) p
def fcg6 (p : FC) (k : FB → R) : R:=@FC.rec (fun _=>R) (fun c0 c1 c2 c3 c4 c5 c6 c7 c8 c9 ca cb cc cd ce cf=>k c6) p
def fcg7 (p : FC) (k : FB → R) : R:=@FC.rec (fun _=>R) (fun c0 c1 c2 c3 c4 c5 c6 c7 c8 c9 ca cb cc cd ce cf=>k c7) p
def fcg8 (p : FC) (k : FB → R) : R:=@FC.rec (fun _=>R) (fun c0 c1 c2 c3 c4 c5 c6 c7 c8 c9 ca cb cc cd ce cf=>k c8) p
def fcg9 (p : FC) (k : FB → R) : R:=@FC.rec (fun _=>R) (fun c0 c1 c2 c3 c4 c5 c6 c7 c8 c9 ca cb cc cd ce cf=>k c9) p
def fcg10 (p : FC) (k : FB → R) : R:=@FC.rec (fun _=>R) (fun c0 c1 c2 c3 c4 c5 c6 c7 c8 c9 ca cb cc cd ce cf=>k ca) p
def fcg11 (p : FC) (k : FB → R) : R:=@FC.rec (fun _=>R) (fun c0 c1 c2 c3 c4 c5 c6 c7 c8 c9 ca cb cc cd ce cf=>k cb) p
def fcg12 (p : FC) (k : FB → R) : R:=@FC.rec (fun _=>R) (fun c0 c1 c2 c3 c4 c5 c6 c7 c8 c9 ca cb cc cd ce cf=>k cc) p
def fcg13 (p : FC) (k : FB → R) : R:=@FC.rec (fun _=>R) (fun c0 c1 c2 c3 c4 c5 c6 c7 c8 c9 ca cb cc cd ce cf=>k cd) p
def fcg14 (p : FC) (k : FB → R) : R:=@FC.rec (fun _=>R) (fun c0 c1 c2 c3 c4 c5 c6 c7 c8 c9 ca cb cc cd ce cf=>k ce) p
def fcg15 (p : FC) (k : FB → R) : R:=@FC.rec (fun _=>R) (fun c0 c1 c2 c3 c4 c5 c6 c7 c8 c9 ca cb cc cd ce cf=>k cf) p
def FC.selK (d : D) : FC → (FB → R) → R :=
 @D.rec (fun _=>FC → (FB → R) → R) fcg0 fcg1 fcg2 fcg3 fcg4 fcg5 fcg6 fcg7 fcg8 fcg9 fcg10 fcg11 fcg12 fcg13 fcg14 fcg15 d
theorem FC.selK_eq (d : D) (p : FC) (k : FB → R) : FC.selK d p k = k (FC.sel d p):=by
 cases d <;> cases p <;> rfl
def tabG (k : K3) (T : FC) : OEnt:=FA.sel k.c (FB.sel k.b (FC.sel k.a T))
def tabK (k : K3) (T : FC) (κ : OEnt → R) : R:=@K3.rec (fun _=>R) (fun a b c=>FC.selK a T fun x=>FB.selK b x fun y=>FA.selK c y κ) k
theorem tabK_eq (k : K3) (T : FC) (κ : OEnt → R) : tabK k T κ = κ (tabG k T):=by
 cases k; simp only [tabK,tabG,FC.selK_eq,FB.selK_eq,FA.selK_eq]
abbrev arg2K (ps : List K2) : List V → Regs → (Regs → R) → R :=
 @List.rec K2 (fun _=>List V → Regs → (Regs → R) → R) (fun l t κ=>nlK l (κ t)) (fun p _ ih l t κ=>unK l fun v l=>rput p t v fun t=>ih l t κ) ps
theorem arg2K_eq : ∀ (ps : List K2) (l : List V) (t : Regs) (κ : Regs → R),arg2K ps l t κ = argK l ps t κ
 | [],l,t,κ=>by cases l <;> rfl
 | p :: ps,l,t,κ=>by
  cases l with
  | nil=>rfl
  | cons v l =>
   show rput p t v (fun t=>arg2K ps l t κ) = rput p t v fun t=>argK l ps t κ
   rw [rput_eq,rput_eq,arg2K_eq]
def retX (r : R) (res : S → Heap → K4 → R) : R :=
 @R.rec (fun _=>R) (fun e t h n=>@Ex.rec (fun _=>R) (res t h n) (fF1 "exit") (res t h n) e) (fF3 "body") (fun w=>.fail w) (fun _ _ a b=>.both a b) r
def primX (r : R) : R:=@R.rec (fun _=>R) (fF4 "a call") (fun v h n=>.rv v h n) (fun w=>.fail w) (fF4 "ways") r
def isNoK (v : V) (yes no : R) : R :=
 @V.rec (fun _=>R) (fun _=>Unit) (fun _ _=>no) (fun _=>no) (fun _ _=>no) (fun _ _ _ _ _ _=>no) (fun _ _=>no) (fun _ _=>no) (fun _=>no) (fun _=>no) (fun _ _ _=>no) (fun _ _=>no)
  (fun o=>@Ot.rec (fun _=>R) no (fun _=>no) (fun _=>no) yes (fun _ _ _=>no) (fun _ _=>no) no (fun _ _=>no) (fun _ _ _ _=>no) (fun _ _ _ _=>no) (fun _ _ _=>no) (fun _ _=>no) o) () (fun _ _ _ _=>()) v
def apX (f : Nat) (its : List Nat) (rd : Rd) (cf : CF2) (args : List V) (h : Heap) (n : K4) : R :=
 unK args fun v l=>isNoK v (unK l fun b l=>unK l fun x l=>nlK l (rd cf b x h n)) (apLK f its cf args h n)
def entK (cf : CF2) (o : OEnt) (args : List V) (h : Heap) (n : K4) : R :=
 @Option.rec Ent (fun _=>R) (.fail "no such function") (fun e=>@Ent.rec (fun _=>R) (fun entry body res=>entry args fun t=>retX (body cf t h n) res) (fun p=>primX (p args h n)) (fun k entry body res=>primX (brK k (fun hs=>entry args fun t=>retX (body cf t hs n) res) args h n)) (fun f its rd=>apX f its rd cf args h n) (fun p=>p args h n) e) o
def call2 (T : FC) (m : Nat) : CF2 :=
 @Nat.rec (fun _=>CF2) (fF4 "depth") (fun _ ih f args h n=>tabK f T fun o=>entK ih o args h n) m
abbrev toS (sm : SM) (t : Regs) : S:=@List.rec (K2 × SL) (fun _=>S) sempty (fun x _ ih=>S.put x.2 ih (rget x.1 t)) sm
theorem toS_get {t : Regs} : ∀ {sm : SM},okSM sm = true → ∀ {p : K2} {s : SL},findS p sm = some s → S.get s (toS sm t) = rget p t
 | [],_,p,s,h=>by cases h
 | x :: l,hok,p,s,h=>by
  simp only [okSM,Bool.and_eq_true] at hok
  have e1 : toS (x :: l) t = S.put x.2 (toS l t) (rget x.1 t):=rfl
  rw [e1]
  simp only [findS] at h
  cases hb : K2.beq x.1 p with
  | true =>
   rw [hb] at h
   have h : some x.2 = some s:=h
   cases h
   rw [S.get_put_same,K2.beq_iff.1 hb]
  | false =>
   rw [hb] at h
   have h : findS p l = some s:=h
   have hne : x.2 ≠ s:=fun e=>by
    have:=List.all_eq_true.1 hok.1 _ (findS_mem h)
    rw [← e] at this
    simp [SL.beq,O8.beq_self,O4.beq_self] at this
   rw [S.get_put_ne _ _ hne]
   exact toS_get hok.2 h
abbrev resV2 (sm : SM) (r : ARes) (t : S) (h : Heap) (κ : V → R) : R :=
 @ARes.rec (fun _=>R) (fun p=>tellE sm [] t (.t p) κ) (fun p m=>tellE sm [] t (.t p) fun v=>asP v fun q off=>obR q h fun cs _ _ =>
  @Option.rec Nat (fun _=>R) (getC cs off κ) (fun m=>rangeC cs off m fun y=>listC y fun l=>κ (.agg l)) m) r
abbrev resL2 (sm : SM) (rs : List ARes) (t : S) (h : Heap) : (List V → R) → R :=
 @List.rec ARes (fun _=>(List V → R) → R) (fun κ=>κ []) (fun r _ ih κ=>resV2 sm r t h fun v=>ih fun vs=>κ (v :: vs)) rs
abbrev resK2 (sm : SM) (rs : List ARes) (t : S) (h : Heap) (n : K4) : R :=
 resL2 sm rs t h fun l=>@List.rec V (fun _=>R) (.rv (.tup []) h n) (fun v vs _=>@List.rec V (fun _=>R) (.rv v h n) (fun _ _ _=>.rv (.tup l) h n) vs) l
abbrev denF (sm : SM) (a : AFn) : Ent:=@AFn.rec (fun _=>Ent) (fun ps c rs=>.code (fun l κ=>arg2K ps l rempty fun t=>κ (toS sm t)) (fun cf t h n=>denK sm cf c r0 [] t h n) (fun t h n=>resK2 sm rs t h n)) a
def ARes.reg (r : ARes) : K2:=@ARes.rec (fun _=>K2) (fun p=>p) (fun p _=>p) r
def okF (sm : SM) (a : AFn) : Bool:=okSM sm && (okK sm a.code (fun _=>true) [] && a.rs.all fun r=>keepB sm r.reg)
abbrev denO (sm : SM) (o : Option AFn) : OEnt:=@Option.rec AFn (fun _=>OEnt) none (fun a=>some (denF sm a)) o
def okO (sm : SM) (o : Option AFn) : Bool:=@Option.rec AFn (fun _=>Bool) false (fun a=>okF sm a) o
section
variable {P : Program} {ρ : Env} {B : Nat}
def EntOf (P : Program) (f : FuncId) (e : Ent) : Prop:=∃ sm : SM,denO sm (cFunc P f) = some e ∧ okO sm (cFunc P f) = true
theorem EntOf.mk {f : FuncId} {e : Ent} (sm : SM) (h : denO sm (cFunc P f) = some e) (k : okO sm (cFunc P f) = true) : EntOf P f e:=⟨sm,h,k⟩
def BrOf (P : Program) (f : FuncId) (e : Ent) : Prop:=∃ k en bo re,e = .br k en bo re ∧ EntOf P f (.code en bo re)
def ApEnt (P : Program) (ρ : Env) (f : FuncId) (e : Ent) : Prop:=∃ its rd A,e = .ap f its rd ∧ ρ.ap f = some A ∧ apOf P f = some A ∧ rdOf P A = some rd ∧ ∀ g ∈ its,HasBody P g
def TreeOK (P : Program) (ρ : Env) (B : Nat) (f : FuncId) (p : Prim) : Prop :=
 ∀ args h n (Φ : R → Prop),(p args h n).sat Φ → ∀ φ w (xs : Array Value),Gam ρ B h n φ w → rels ρ φ args xs.toList →
  Runs P f xs w fun x w'=>∃ v h1 n1 φ',Φ (.rv v h1 n1) ∧ Fr h h1 φ φ' n n1 w w' ∧ Gam ρ B h1 n1 φ' w' ∧ rel ρ φ' v x
def EGood (P : Program) (ρ : Env) (B : Nat) (f : FuncId) (e : Ent) : Prop:=(EntOf P f e ∨ BrOf P f e) ∨ ((∃ p,e = .prim p ∧ PrimOK P ρ B f p) ∨ (ApEnt P ρ f e ∨ ∃ p,e = .tree p ∧ TreeOK P ρ B f p))
def TabOK (P : Program) (ρ : Env) (B : Nat) (T : FC) : Prop:=(∀ f e,tabG (fnKey f) T = some e → EGood P ρ B f e) ∧ ∀ f A,ρ.ap f = some A → ∃ e,tabG (fnKey f) T = some e ∧ ApEnt P ρ f e
theorem primX_sat {r : R} {Φ : R → Prop} (h : (primX r).sat Φ) : ∃ v h1 n1,r = .rv v h1 n1 ∧ Φ (.rv v h1 n1):=by
 cases r with
 | rv v h1 n1=>exact ⟨v,h1,n1,rfl,h⟩
 | _=>exact h.elim
theorem resV2_eq {sm : SM} {r : ARes} {t : Regs} {t' : S} (ri : RI sm [] [] t t') (hk : keepB sm r.reg = true) (hp : Heap) (κ : V → R) : resV2 sm r t' hp κ = resV r t hp κ:=by
 have kn : ∀ p,keepB sm p = true → known sm [] p = true:=fun p h=>by unfold known; rw [h,Bool.or_true]
 cases r with
 | tmp p=>show tellE sm [] t' (.t p) κ = rgetK p t κ; rw [ri.tell (kn p hk),rgetK_eq]
 | cel p m =>
  show tellE sm [] t' (.t p) _ = rgetK p t _
  rw [ri.tell (kn p hk),rgetK_eq,obR_eq]
theorem resL2_eq {sm : SM} {t : Regs} {t' : S} (ri : RI sm [] [] t t') {hp : Heap} : ∀ {rs : List ARes} {κ : List V → R},(∀ r ∈ rs,keepB sm r.reg = true) → resL2 sm rs t' hp κ = resL rs t hp κ
 | [],κ,_=>rfl
 | r :: rs,κ,h=>by
  have e1 : resL2 sm (r :: rs) t' hp κ = resV2 sm r t' hp fun v=>resL2 sm rs t' hp fun vs=>κ (v :: vs):=rfl
  have e2 : resL (r :: rs) t hp κ = resV r t hp fun v=>resL rs t hp fun vs=>κ (v :: vs):=rfl
  rw [e1,e2,resV2_eq ri (h r (List.mem_cons_self ..))]
  congr 1; funext v
  exact resL2_eq ri fun r hr=>h r (List.mem_cons_of_mem _ hr)
theorem resK2_eq {sm : SM} {t : Regs} {t' : S} (ri : RI sm [] [] t t') {hp : Heap} {n : K4} {rs : List ARes} (h : ∀ r ∈ rs,keepB sm r.reg = true) : resK2 sm rs t' hp n = resK rs t hp n:=resL2_eq ri h
def RPost (res : S → Heap → K4 → R) (Φ : R → Prop) : R → Prop
 | .ok .nrm t h n=>(res t h n).sat Φ
 | .ok .ret t h n=>(res t h n).sat Φ
 | _=>False
theorem retX_sat {res : S → Heap → K4 → R} {Φ : R → Prop} : ∀ {r : R},(retX r res).sat Φ → r.sat (RPost res Φ)
 | .ok e t h n,hs=>by
  cases e with
  | nrm=>exact hs
  | ret=>exact hs
  | exit j=>exact hs.elim
 | .rv _ _ _,hs=>hs.elim
 | .fail _,hs=>hs.elim
 | .both a b,hs=>⟨retX_sat (r:=a) hs.1,retX_sat (r:=b) hs.2⟩
theorem resV_nb {r : ARes} {t : Regs} {h : Heap} {κ : V → R} (hg : (resV r t h κ).good) : ∃ v,resV r t h κ = κ v:=by
 cases r with
 | tmp p=>exact ⟨_,rgetK_eq p t κ⟩
 | cel p m =>
  have e1 : resV (.cel p m) t h κ = asP (rget p t) fun q off=>obK q h fun cs _ _ =>
    @Option.rec Nat (fun _=>R) (getC cs off κ) (fun m=>rangeC cs off m fun y=>listC y fun l=>κ (.agg l)) m:=rgetK_eq p t _
  rw [e1] at hg
  obtain ⟨q,off,hv,e2⟩:=asP_good hg
  rw [e2] at hg
  obtain ⟨cs,sup,prev,hq,e3⟩:=obK_good hg
  rw [e3] at hg
  cases m with
  | none =>
   obtain ⟨v,_,e4⟩:=getC_good (show R.good (getC cs off κ) from hg)
   exact ⟨v,e1.trans (e2.trans (e3.trans e4))⟩
  | some m =>
   obtain ⟨hle,y,hyl,hya,e4⟩:=rangeC_good (show R.good (rangeC cs off m fun y=>listC y fun l=>κ (.agg l)) from hg)
   obtain ⟨l,e5,_,_⟩:=listC_eq y fun l=>κ (.agg l)
   exact ⟨.agg l,e1.trans (e2.trans (e3.trans (Eq.trans e4 e5)))⟩
theorem resL_nb : ∀ {rs : List ARes} {t : Regs} {h : Heap} {κ : List V → R},(resL rs t h κ).good → ∃ vs,resL rs t h κ = κ vs
 | [],t,h,κ,_=>⟨[],rfl⟩
 | r :: rs,t,h,κ,hg=>by
  have hg : R.good (resV r t h fun v=>resL rs t h fun vs=>κ (v :: vs)):=hg
  obtain ⟨v,e1⟩:=resV_nb hg
  rw [e1] at hg
  obtain ⟨vs,e2⟩:=resL_nb hg
  exact ⟨v :: vs,Eq.trans e1 e2⟩
theorem resK_rv {rs : List ARes} {t : Regs} {h : Heap} {n : K4} (hg : (resK rs t h n).good) : ∃ v,resK rs t h n = .rv v h n:=by
 obtain ⟨vs,e⟩:=resL_nb (show R.good (resL rs t h _) from hg)
 have e : resK rs t h n = _:=e
 match vs,e with
 | [],e=>exact ⟨_,e⟩
 | [u],e=>exact ⟨_,e⟩
 | u :: u' :: us,e=>exact ⟨_,e⟩
theorem call_tree (hρ : OneSym ρ) (hm : P.follows .mixedOrders = true) {cf : CF} {cf2 : CF2} (hct : CallT P ρ B cf) (hR : RoundOK P ρ B cf) (h2 : ∀ f,cf2 (fnKey f) = cf f) {f : FuncId} {e : Ent} (he : EntOf P f e) {args : List V} {h : Heap} {n : K4} {Φ : R → Prop}
  (hr : (entK cf2 (some e) args h n).sat Φ) {φ : Emb} {w : World} {xs : Array Value} (g : Gam ρ B h n φ w) (hxs : rels ρ φ args xs.toList) :
  Runs P f xs w fun x w'=>∃ v h1 n1 φ',Φ (.rv v h1 n1) ∧ Fr h h1 φ φ' n n1 w w' ∧ Gam ρ B h1 n1 φ' w' ∧ rel ρ φ' v x:=by
 obtain ⟨sm,hd,hok⟩:=he
 cases hf : cFunc P f with
 | none=>rw [hf] at hd; cases hd
 | some a =>
  rw [hf] at hd hok
  obtain ⟨fn,c,ps,rs,hfn,hb,hps,hrs,hname,rfl⟩:=cFunc_some hf
  have hd : some (Ent.code (fun l κ=>arg2K ps l rempty fun t=>κ (toS sm t)) (fun cf t h n=>denK sm cf (cCode P fn.ntmps c) r0 [] t h n) (fun t h n=>resK2 sm rs t h n)) = some e:=hd
  cases hd
  have hok : (okSM sm && (okK sm (cCode P fn.ntmps c) (fun _=>true) [] && rs.all fun r=>keepB sm r.reg)) = true:=hok
  rw [Bool.and_eq_true,Bool.and_eq_true] at hok
  obtain ⟨hsm,hok⟩:=hok
  have inj : ∀ {p q s},findS p sm = some s → findS q sm = some s → p = q:=fun h h'=>okSM_inj hsm h h'
  have hr : (arg2K ps args rempty (fun t=>retX (denK sm cf2 (cCode P fn.ntmps c) r0 [] (toS sm t) h n) fun t h n=>resK2 sm rs t h n)).sat Φ:=hr
  rw [arg2K_eq] at hr
  obtain ⟨hlen,t0,e2,H0⟩:=argK_good (k:=0) (fun i s hi=>by
   obtain ⟨hi',hi2⟩:=List.getElem?_eq_some_iff.1 hi
   simp at hi2; omega) hps (R.sat_good hr)
  rw [e2] at hr
  simp only [List.length_range] at hlen
  have hxl : xs.size = args.length:=by have:=rels_length hxs; simpa using this
  have hxN : xs.size ≤ fn.ntmps:=by
   rcases Nat.eq_zero_or_pos xs.size with h0 | h0
   ·omega
   ·have:=cSlots_lt hps (xs.size - 1) (List.mem_range.2 (by omega)); omega
  have hT : TR ρ fn.ntmps φ t0 { tmps:=xs ++ Array.replicate (fn.ntmps - xs.size) undef,defers:=[] }:={
   size:=by simp; omega
   defers:=rfl
   at_:=fun s p hs hp=>by
    rw [H0 s p hp,if_pos (Nat.zero_le _),Nat.sub_zero,rget_rempty]
    show rel ρ φ _ ((xs ++ Array.replicate (fn.ntmps - xs.size) undef).getD s undef)
    rw [Array.getD_eq_getD_getElem?]
    by_cases hsx : s < xs.size
    ·rw [Array.getElem?_append_left hsx]
     have hsa : s < args.length:=by omega
     rw [List.getElem?_eq_getElem hsa]
     obtain ⟨x,hx,hrx⟩:=(rels_iff.1 hxs).2 s _ (List.getElem?_eq_getElem hsa)
     rw [Array.getElem?_toList] at hx
     rw [hx]; exact hrx
    ·rw [Array.getElem?_append_right (by omega),Array.getElem?_replicate,if_pos (by omega),List.getElem?_eq_none (by omega)]
     exact rel_undef }
  have hx:=retX_sat hr
  have hOK:=(den_ok (N:=fn.ntmps) (sm:=sm) hρ hm hct hR h2 c).join hok.1 (RI.start inj fun p s hs=>toS_get hsm hs) hx
  intro o a K Q hK
  have hcf' : (callFunc f xs).run P w = .ok (.enter f xs) w:=by
   have hname' : fn.name ≠ "runtime.NumGoroutine":=by simpa using hname
   simp [callFunc,hfn,hname',hb]
  rw [hcf']
  refine calls_of_wp hfn hb (hOK φ _ w hT g _ fun e t1 h2' n2 hres φ' a' w' tf f1 g1 T1 hk=>?_)
  have fin : (resK2 sm rs t1 h2' n2).sat Φ → ∃ X,(results fn a'.tmps).run P w' = .ok X w' ∧ K (a.put o.dst X) w':=fun hres=>by
   rw [resK2_eq (RI.start inj hk) fun r hr=>List.all_eq_true.1 hok.2 r hr] at hres
   obtain ⟨v,hv⟩:=resK_rv (R.sat_good hres)
   obtain ⟨_,_,Hres⟩:=resK_good (ρ:=ρ) (B:=B) hrs hv
   rw [hv] at hres
   obtain ⟨X,hX,hrX⟩:=Hres φ' a' w' T1 g1
   exact ⟨X,hX,hK X w' ⟨v,h2',n2,φ',hres,f1,g1,hrX⟩⟩
  cases e with
  | nrm=>obtain ⟨X,hX,hKX⟩:=fin hres; exact ⟨T1.defers,X,hX,hKX⟩
  | exit id=>exact hres.elim
  | ret=>obtain ⟨X,hX,hKX⟩:=fin hres; exact ⟨T1.defers,X,hX,hKX⟩
theorem call2_all (hρ : OneSym ρ) (hm : P.follows .mixedOrders = true) {T : FC} (hT : TabOK P ρ B T) : ∀ m,CallT P ρ B (fun f=>call2 T m (fnKey f)) ∧ RoundOK P ρ B (fun f=>call2 T m (fnKey f)):=by
 intro m
 induction m with
 | zero=>exact ⟨fun f args h n Φ hr=>hr.elim,fun f A fn hA box x h n Φ hr=>hr.elim⟩
 | succ m ih =>
  obtain ⟨hct,hR⟩:=ih
  have e1 : ∀ f args h n,call2 T (m + 1) (fnKey f) args h n = entK (call2 T m) (tabG (fnKey f) T) args h n:=fun f args h n=>tabK_eq (fnKey f) T fun o=>entK (call2 T m) o args h n
  refine ⟨fun f args h n Φ hr φ w xs g hxs=>?_,fun f A fn hA box x h n Φ hr φ w tmps X l D g hrec unc hsz hbox hX=>?_⟩
  ·have hr : (call2 T (m + 1) (fnKey f) args h n).sat Φ:=hr
   rw [e1] at hr
   cases ho : tabG (fnKey f) T with
   | none=>rw [ho] at hr; exact hr.elim
   | some e =>
    rw [ho] at hr
    rcases hT.1 f e ho with (he | ⟨k,en,bo,re,rfl,he⟩) | (⟨p,rfl,hp⟩ | (⟨its,rd,A,rfl,hA,h1,h2,h3⟩ | ⟨p,rfl,hp⟩))
    ·exact call_tree hρ hm hct hR (fun _=>rfl) he hr g hxs
    ·obtain ⟨v,h1,n1,hr,hΦ⟩:=primX_sat (show (primX (brK k (fun hs=>en args fun t=>retX (bo (call2 T m) t hs n) re) args h n)).sat Φ from hr)
     intro o a K Q hK
     exact brK_ok hr g hxs (fun hs Φ hsat gs=>call_tree hρ hm hct hR (fun _=>rfl) he (h:=hs) hsat gs hxs) o a K Q fun x w' ⟨φ',f1,g1,r1⟩=>hK x w' ⟨v,h1,n1,φ',hΦ,f1,g1,r1⟩
    ·obtain ⟨v,h1,n1,hr,hΦ⟩:=primX_sat (show (primX (p args h n)).sat Φ from hr)
     intro o a K Q hK
     exact hp args h n v h1 n1 hr φ w xs g hxs o a K Q fun x w' ⟨φ',f1,g1,r1⟩=>hK x w' ⟨v,h1,n1,φ',hΦ,f1,g1,r1⟩
    ·have hr : (apX f its rd (call2 T m) args h n).sat Φ:=hr
     unfold apX at hr
     obtain ⟨v,l,hl,q1⟩:=unK_good (R.sat_good hr)
     rw [q1] at hr
     subst hl
     by_cases hv : v = .oth .no
     ·subst hv
      obtain ⟨y,ys,_,hy,_⟩:=rels_cons.1 hxs
      simp only [rel] at hy
     ·have e2 : ∀ A C : R,isNoK v A C = C:=fun A C=>by
       cases v with
       | oth o=>cases o with
        | no=>exact absurd rfl hv
        | _=>rfl
       | _=>rfl
      rw [e2] at hr
      exact ap_ok hA h1 h3 hct (fun _=>rfl) hr g hxs
    ·exact hp args h n Φ hr φ w xs g hxs
  ·obtain ⟨e,ho,its,rd,A',rfl,hA',h1,h2,h3⟩:=hT.2 f A hA
   rw [hA] at hA'; cases hA'
   have hr : (call2 T (m + 1) (fnKey f) [.oth .no,.ptr box 0,x] h n).sat Φ:=hr
   rw [e1,ho] at hr
   have hr : (rd (call2 T m) (.ptr box 0) x h n).sat Φ:=hr
   exact rd_ok hρ hct.ok (fun _=>rfl) h2 hr g hrec unc hsz hbox hX
theorem call2_ok (hρ : OneSym ρ) (hm : P.follows .mixedOrders = true) {T : FC} (hT : TabOK P ρ B T) (m : Nat) : CallOK P ρ B fun f=>call2 T m (fnKey f):=(call2_all hρ hm hT m).1.ok
end
end Go.Ev

namespace Go.Ev
open Go.RowKit
set_option linter.unusedVariables false
abbrev gdX (w : Bool) (v : V) (h : Heap) (n : K4) (F : KV → R) (κ : KV) : R:=gd w v F κ h n
abbrev rvV (v : V) : R:=.rv v hempty ⟨.d0,.d0,.d0,.d0⟩
abbrev alY (b : K4) (j : D) (h : Heap) (F : K4 → R) (κ : KV) : R:=b.at j fun r=>hgetR r h fun x=>freeK x (atK (F r) κ)
abbrev alX (b : K4) (j : D) (h : Heap) (F : K4 → R) (κ : V → Heap → R) : R:=alY b j h F fun v h _=>κ v h
abbrev noX (b : K4) (j : D) (h : Heap) (κ : R) : R:=b.at j fun r=>hgetR r h fun x=>freeK x κ
abbrev rnX (b : K4) (j : D) (h : Heap) (F : Heap → R) (κ : V → R) : R:=b.at j fun r=>hgetR r h fun x=>obS x fun ob=>hputR r hempty (some ob) fun hx=>atV (F hx) κ
abbrev celN (m : Nat) (v : V) (h : Heap) (κ : V → R) : R:=asP v fun q off=>obR q h fun cs _ _=>rangeC cs off m fun y=>listC y fun l=>κ (.agg l)
abbrev U : V:=undV
abbrev Q0 : SQ:=.mk U U U U
abbrev g0 (t : S) (k : V → R) : R:=@S.rec (fun _=>R) (fun c0 c1 c2 c3 c4 c5 c6 c7=>@SQ.rec (fun _=>R) (fun d0 d1 d2 d3=>k d0) c0) t
abbrev w0 (t : S) (v : V) (k : S → R) : R:=@S.rec (fun _=>R) (fun c0 c1 c2 c3 c4 c5 c6 c7=>@SQ.rec (fun _=>R) (fun d0 d1 d2 d3=>k (.mk (.mk v d1 d2 d3) c1 c2 c3 c4 c5 c6 c7)) c0) t
abbrev g1 (t : S) (k : V → R) : R:=@S.rec (fun _=>R) (fun c0 c1 c2 c3 c4 c5 c6 c7=>@SQ.rec (fun _=>R) (fun d0 d1 d2 d3=>k d1) c0) t
abbrev w1 (t : S) (v : V) (k : S → R) : R:=@S.rec (fun _=>R) (fun c0 c1 c2 c3 c4 c5 c6 c7=>@SQ.rec (fun _=>R) (fun d0 d1 d2 d3=>k (.mk (.mk d0 v d2 d3) c1 c2 c3 c4 c5 c6 c7)) c0) t
abbrev g2 (t : S) (k : V → R) : R:=@S.rec (fun _=>R) (fun c0 c1 c2 c3 c4 c5 c6 c7=>@SQ.rec (fun _=>R) (fun d0 d1 d2 d3=>k d2) c0) t
abbrev w2 (t : S) (v : V) (k : S → R) : R:=@S.rec (fun _=>R) (fun c0 c1 c2 c3 c4 c5 c6 c7=>@SQ.rec (fun _=>R) (fun d0 d1 d2 d3=>k (.mk (.mk d0 d1 v d3) c1 c2 c3 c4 c5 c6 c7)) c0) t
abbrev g3 (t : S) (k : V → R) : R:=@S.rec (fun _=>R) (fun c0 c1 c2 c3 c4 c5 c6 c7=>@SQ.rec (fun _=>R) (fun d0 d1 d2 d3=>k d3) c0) t
abbrev w3 (t : S) (v : V) (k : S → R) : R:=@S.rec (fun _=>R) (fun c0 c1 c2 c3 c4 c5 c6 c7=>@SQ.rec (fun _=>R) (fun d0 d1 d2 d3=>k (.mk (.mk d0 d1 d2 v) c1 c2 c3 c4 c5 c6 c7)) c0) t
abbrev g4 (t : S) (k : V → R) : R:=@S.rec (fun _=>R) (fun c0 c1 c2 c3 c4 c5 c6 c7=>@SQ.rec (fun _=>R) (fun d0 d1 d2 d3=>k d0) c1) t
abbrev w4 (t : S) (v : V) (k : S → R) : R:=@S.rec (fun _=>R) (fun c0 c1 c2 c3 c4 c5 c6 c7=>@SQ.rec (fun _=>R) (fun d0 d1 d2 d3=>k (.mk c0 (.mk v d1 d2 d3) c2 c3 c4 c5 c6 c7)) c1) t
abbrev g5 (t : S) (k : V → R) : R:=@S.rec (fun _=>R) (fun c0 c1 c2 c3 c4 c5 c6 c7=>@SQ.rec (fun _=>R) (fun d0 d1 d2 d3=>k d1) c1) t
abbrev w5 (t : S) (v : V) (k : S → R) : R:=@S.rec (fun _=>R) (fun c0 c1 c2 c3 c4 c5 c6 c7=>@SQ.rec (fun _=>R) (fun d0 d1 d2 d3=>k (.mk c0 (.mk d0 v d2 d3) c2 c3 c4 c5 c6 c7)) c1) t
abbrev g6 (t : S) (k : V → R) : R:=@S.rec (fun _=>R) (fun c0 c1 c2 c3 c4 c5 c6 c7=>@SQ.rec (fun _=>R) (fun d0 d1 d2 d3=>k d2) c1) t
abbrev w6 (t : S) (v : V) (k : S → R) : R:=@S.rec (fun _=>R) (fun c0 c1 c2 c3 c4 c5 c6 c7=>@SQ.rec (fun _=>R) (fun d0 d1 d2 d3=>k (.mk c0 (.mk d0 d1 v d3) c2 c3 c4 c5 c6 c7)) c1) t
abbrev g7 (t : S) (k : V → R) : R:=@S.rec (fun _=>R) (fun c0 c1 c2 c3 c4 c5 c6 c7=>@SQ.rec (fun _=>R) (fun d0 d1 d2 d3=>k d3) c1) t
abbrev w7 (t : S) (v : V) (k : S → R) : R:=@S.rec (fun _=>R) (fun c0 c1 c2 c3 c4 c5 c6 c7=>@SQ.rec (fun _=>R) (fun d0 d1 d2 d3=>k (.mk c0 (.mk d0 d1 d2 v) c2 c3 c4 c5 c6 c7)) c1) t
abbrev g8 (t : S) (k : V → R) : R:=@S.rec (fun _=>R) (fun c0 c1 c2 c3 c4 c5 c6 c7=>@SQ.rec (fun _=>R) (fun d0 d1 d2 d3=>k d0) c2) t
abbrev w8 (t : S) (v : V) (k : S → R) : R:=@S.rec (fun _=>R) (fun c0 c1 c2 c3 c4 c5 c6 c7=>@SQ.rec (fun _=>R) (fun d0 d1 d2 d3=>k (.mk c0 c1 (.mk v d1 d2 d3) c3 c4 c5 c6 c7)) c2) t
abbrev g9 (t : S) (k : V → R) : R:=@S.rec (fun _=>R) (fun c0 c1 c2 c3 c4 c5 c6 c7=>@SQ.rec (fun _=>R) (fun d0 d1 d2 d3=>k d1) c2) t
abbrev w9 (t : S) (v : V) (k : S → R) : R:=@S.rec (fun _=>R) (fun c0 c1 c2 c3 c4 c5 c6 c7=>@SQ.rec (fun _=>R) (fun d0 d1 d2 d3=>k (.mk c0 c1 (.mk d0 v d2 d3) c3 c4 c5 c6 c7)) c2) t
abbrev g10 (t : S) (k : V → R) : R:=@S.rec (fun _=>R) (fun c0 c1 c2 c3 c4 c5 c6 c7=>@SQ.rec (fun _=>R) (fun d0 d1 d2 d3=>k d2) c2) t
abbrev w10 (t : S) (v : V) (k : S → R) : R:=@S.rec (fun _=>R) (fun c0 c1 c2 c3 c4 c5 c6 c7=>@SQ.rec (fun _=>R) (fun d0 d1 d2 d3=>k (.mk c0 c1 (.mk d0 d1 v d3) c3 c4 c5 c6 c7)) c2) t
abbrev g11 (t : S) (k : V → R) : R:=@S.rec (fun _=>R) (fun c0 c1 c2 c3 c4 c5 c6 c7=>@SQ.rec (fun _=>R) (fun d0 d1 d2 d3=>k d3) c2) t
abbrev w11 (t : S) (v : V) (k : S → R) : R:=@S.rec (fun _=>R) (fun c0 c1 c2 c3 c4 c5 c6 c7=>@SQ.rec (fun _=>R) (fun d0 d1 d2 d3=>k (.mk c0 c1 (.mk d0 d1 d2 v) c3 c4 c5 c6 c7)) c2) t
abbrev g12 (t : S) (k : V → R) : R:=@S.rec (fun _=>R) (fun c0 c1 c2 c3 c4 c5 c6 c7=>@SQ.rec (fun _=>R) (fun d0 d1 d2 d3=>k d0) c3) t
abbrev w12 (t : S) (v : V) (k : S → R) : R:=@S.rec (fun _=>R) (fun c0 c1 c2 c3 c4 c5 c6 c7=>@SQ.rec (fun _=>R) (fun d0 d1 d2 d3=>k (.mk c0 c1 c2 (.mk v d1 d2 d3) c4 c5 c6 c7)) c3) t
abbrev g13 (t : S) (k : V → R) : R:=@S.rec (fun _=>R) (fun c0 c1 c2 c3 c4 c5 c6 c7=>@SQ.rec (fun _=>R) (fun d0 d1 d2 d3=>k d1) c3) t
abbrev w13 (t : S) (v : V) (k : S → R) : R:=@S.rec (fun _=>R) (fun c0 c1 c2 c3 c4 c5 c6 c7=>@SQ.rec (fun _=>R) (fun d0 d1 d2 d3=>k (.mk c0 c1 c2 (.mk d0 v d2 d3) c4 c5 c6 c7)) c3) t
abbrev g14 (t : S) (k : V → R) : R:=@S.rec (fun _=>R) (fun c0 c1 c2 c3 c4 c5 c6 c7=>@SQ.rec (fun _=>R) (fun d0 d1 d2 d3=>k d2) c3) t
abbrev w14 (t : S) (v : V) (k : S → R) : R:=@S.rec (fun _=>R) (fun c0 c1 c2 c3 c4 c5 c6 c7=>@SQ.rec (fun _=>R) (fun d0 d1 d2 d3=>k (.mk c0 c1 c2 (.mk d0 d1 v d3) c4 c5 c6 c7)) c3) t
abbrev g15 (t : S) (k : V → R) : R:=@S.rec (fun _=>R) (fun c0 c1 c2 c3 c4 c5 c6 c7=>@SQ.rec (fun _=>R) (fun d0 d1 d2 d3=>k d3) c3) t
abbrev w15 (t : S) (v : V) (k : S → R) : R:=@S.rec (fun _=>R) (fun c0 c1 c2 c3 c4 c5 c6 c7=>@SQ.rec (fun _=>R) (fun d0 d1 d2 d3=>k (.mk c0 c1 c2 (.mk d0 d1 d2 v) c4 c5 c6 c7)) c3) t
abbrev g17 (t : S) (k : V → R) : R:=@S.rec (fun _=>R) (fun c0 c1 c2 c3 c4 c5 c6 c7=>@SQ.rec (fun _=>R) (fun d0 d1 d2 d3=>k d1) c4) t
section
variable {P : Program} {ρ : Env} {B : Nat}
def OKO (P : Program) (ρ : Env) (B : Nat) (f : FuncId) (o : OEnt) : Prop:=∀ e,o = some e → EGood P ρ B f e
theorem OKO.no {f : FuncId} : OKO P ρ B f none:=fun e h=>by cases h
theorem OKO.fn {f : FuncId} {e : Ent} (h : EntOf P f e) : OKO P ρ B f (some e):=fun e' h'=>by cases h'; exact .inl (.inl h)
theorem OKO.br {f : FuncId} {k : Nat} {en : List V → (S → R) → R} {bo : CF2 → S → Heap → K4 → R} {re : S → Heap → K4 → R} (h : EntOf P f (.code en bo re)) : OKO P ρ B f (some (.br k en bo re)):=fun e' h'=>by cases h'; exact .inl (.inr ⟨k,en,bo,re,rfl,h⟩)
theorem OKO.brX {f : FuncId} {e : Ent} {k : Nat} (h : EntOf P f e) (he : ∃ en bo re,e = .code en bo re) : OKO P ρ B f (some (e.toBr k)):=by
 obtain ⟨en,bo,re,rfl⟩:=he
 exact OKO.br h
theorem OKO.pr {f : FuncId} {p : Prim} (h : PrimOK P ρ B f p) : OKO P ρ B f (some (.prim p)):=fun e' h'=>by cases h'; exact .inr (.inl ⟨p,rfl,h⟩)
def noFn (s : String) : Prim:=fun _ _ _=>.fail s
theorem OKO.noP {f : FuncId} (s : String) : OKO P ρ B f (some (.prim (noFn s))):=OKO.pr fun args h n v h1 n1 hx=>by cases hx
theorem OKO.ap {f : FuncId} {its : List Nat} {rd : Rd} {A : ApC} (hA : ρ.ap f = some A) (h1 : apOf P f = some A) (h2 : rdOf P A = some rd) (h3 : ∀ g ∈ its,HasBody P g) : OKO P ρ B f (some (.ap f its rd)):=fun e' h'=>by cases h'; exact .inr (.inr (.inl ⟨its,rd,A,rfl,hA,h1,h2,h3⟩))
theorem OKO.tr {f : FuncId} {p : Prim} (h : TreeOK P ρ B f p) : OKO P ρ B f (some (.tree p)):=fun e' h'=>by cases h'; exact .inr (.inr (.inr ⟨p,rfl,h⟩))
def OKA (P : Program) (ρ : Env) (B : Nat) (base : Nat) (x : FA) : Prop:=∀ d,OKO P ρ B (base + d.toN) (FA.sel d x)
def OKB (P : Program) (ρ : Env) (B : Nat) (base : Nat) (x : FB) : Prop:=∀ d,OKA P ρ B (base + 16 * d.toN) (FB.sel d x)
theorem okA_mk {base : Nat} {c0 c1 c2 c3 c4 c5 c6 c7 c8 c9 ca cb cc cd ce cf : OEnt} (h0 : OKO P ρ B (base + 0) c0) (h1 : OKO P ρ B (base + 1) c1) (h2 : OKO P ρ B (base + 2) c2) (h3 : OKO P ρ B (base + 3) c3) (h4 : OKO P ρ B (base + 4) c4) (h5 : OKO P ρ B (base + 5) c5) (h6 : OKO P ρ B (base + 6) c6) (h7 : OKO P ρ B (base + 7) c7) (h8 : OKO P ρ B (base + 8) c8) (h9 : OKO P ρ B (base + 9) c9) (h10 : OKO P ρ B (base + 10) ca) (h11 : OKO P ρ B (base + 11) cb) (h12 : OKO P ρ B (base + 12) cc) (h13 : OKO P ρ B (base + 13) cd) (h14 : OKO P ρ B (base + 14) ce) (h15 : OKO P ρ B (base + 15) cf) : OKA P ρ B base (.mk c0 c1 c2 c3 c4 c5 c6 c7 c8 c9 ca cb cc cd ce cf):=fun d=>by
 cases d
 ·exact h0
 ·exact h1
 ·exact h2
 ·exact h3
 ·exact h4
 ·exact h5
 ·exact h6
 ·exact h7
 ·exact h8
 ·exact h9
 ·exact h10
 ·exact h11
 ·exact h12
 ·exact h13
 ·exact h14
 ·exact h15
theorem okB_mk {base : Nat} {c0 c1 c2 c3 c4 c5 c6 c7 c8 c9 ca cb cc cd ce cf : FA} (h0 : OKA P ρ B (base + 16 * 0) c0) (h1 : OKA P ρ B (base + 16 * 1) c1) (h2 : OKA P ρ B (base + 16 * 2) c2) (h3 : OKA P ρ B (base + 16 * 3) c3) (h4 : OKA P ρ B (base + 16 * 4) c4) (h5 : OKA P ρ B (base + 16 * 5) c5) (h6 : OKA P ρ B (base + 16 * 6) c6) (h7 : OKA P ρ B (base + 16 * 7) c7) (h8 : OKA P ρ B (base + 16 * 8) c8) (h9 : OKA P ρ B (base + 16 * 9) c9) (h10 : OKA P ρ B (base + 16 * 10) ca) (h11 : OKA P ρ B (base + 16 * 11) cb) (h12 : OKA P ρ B (base + 16 * 12) cc) (h13 : OKA P ρ B (base + 16 * 13) cd) (h14 : OKA P ρ B (base + 16 * 14) ce) (h15 : OKA P ρ B (base + 16 * 15) cf) : OKB P ρ B base (.mk c0 c1 c2 c3 c4 c5 c6 c7 c8 c9 ca cb cc cd ce cf):=fun d=>by
 cases d
 ·exact h0
 ·exact h1
 ·exact h2
 ·exact h3
 ·exact h4
 ·exact h5
 ·exact h6
 ·exact h7
 ·exact h8
 ·exact h9
 ·exact h10
 ·exact h11
 ·exact h12
 ·exact h13
 ·exact h14
 ·exact h15
def noA : FA:=.mk none none none none none none none none none none none none none none none none
def noB : FB:=.mk noA noA noA noA noA noA noA noA noA noA noA noA noA noA noA noA
theorem noA_sel (d : D) : FA.sel d noA = none:=by cases d <;> rfl
theorem noB_sel (d : D) : FB.sel d noB = noA:=by cases d <;> rfl
theorem okA_no {base : Nat} : OKA P ρ B base noA:=fun d=>by rw [noA_sel]; exact OKO.no
theorem okB_no {base : Nat} : OKB P ρ B base noB:=fun d=>by rw [noB_sel]; exact okA_no
theorem ofN_lt {x : Nat} {d : D} (h : D.ofN x = d) (hd : d ≠ .d15) : x = d.toN:=by
 rcases Nat.lt_or_ge x 15 with hx | hx
 ·rw [← h,D.toN_ofN x (by omega)]
 ·exfalso
  obtain ⟨y,rfl⟩ : ∃ y,x = y + 15:=⟨x - 15,by omega⟩
  exact hd h.symm
theorem okC_mk {c0 c1 c2 c3 c4 c5 c6 c7 c8 c9 ca cb cc cd ce : FB} (h0 : OKB P ρ B (256 * 0) c0) (h1 : OKB P ρ B (256 * 1) c1) (h2 : OKB P ρ B (256 * 2) c2) (h3 : OKB P ρ B (256 * 3) c3) (h4 : OKB P ρ B (256 * 4) c4) (h5 : OKB P ρ B (256 * 5) c5) (h6 : OKB P ρ B (256 * 6) c6) (h7 : OKB P ρ B (256 * 7) c7) (h8 : OKB P ρ B (256 * 8) c8) (h9 : OKB P ρ B (256 * 9) c9) (h10 : OKB P ρ B (256 * 10) ca) (h11 : OKB P ρ B (256 * 11) cb) (h12 : OKB P ρ B (256 * 12) cc) (h13 : OKB P ρ B (256 * 13) cd) (h14 : OKB P ρ B (256 * 14) ce) : ∀ f e,tabG (fnKey f) (.mk c0 c1 c2 c3 c4 c5 c6 c7 c8 c9 ca cb cc cd ce noB) = some e → EGood P ρ B f e:=fun f e h=>by
 have hc : (D.ofN (f % 16)).toN = f % 16:=D.toN_ofN _ (by omega)
 have hb : (D.ofN (f / 16 % 16)).toN = f / 16 % 16:=D.toN_ofN _ (by omega)
 have key : ∀ x : FB,OKB P ρ B (256 * (f / 256)) x → FA.sel (D.ofN (f % 16)) (FB.sel (D.ofN (f / 16 % 16)) x) = some e → EGood P ρ B f e:=fun x hx hs=>by
  have:=hx (D.ofN (f / 16 % 16)) (D.ofN (f % 16)) e hs
  rw [hc,hb] at this
  have e1 : 256 * (f / 256) + 16 * (f / 16 % 16) + f % 16 = f:=by omega
  rw [e1] at this; exact this
 have h : FA.sel (D.ofN (f % 16)) (FB.sel (D.ofN (f / 16 % 16)) (FC.sel (D.ofN (f / 256)) (.mk c0 c1 c2 c3 c4 c5 c6 c7 c8 c9 ca cb cc cd ce noB))) = some e:=h
 generalize hd : D.ofN (f / 256) = d at h
 cases d
 ·have:=ofN_lt hd (by intro h; cases h); rw [show D.toN .d0 = 0 from rfl] at this; exact key c0 (by rw [this]; exact h0) h
 ·have:=ofN_lt hd (by intro h; cases h); rw [show D.toN .d1 = 1 from rfl] at this; exact key c1 (by rw [this]; exact h1) h
 ·have:=ofN_lt hd (by intro h; cases h); rw [show D.toN .d2 = 2 from rfl] at this; exact key c2 (by rw [this]; exact h2) h
 ·have:=ofN_lt hd (by intro h; cases h); rw [show D.toN .d3 = 3 from rfl] at this; exact key c3 (by rw [this]; exact h3) h
 ·have:=ofN_lt hd (by intro h; cases h); rw [show D.toN .d4 = 4 from rfl] at this; exact key c4 (by rw [this]; exact h4) h
 ·have:=ofN_lt hd (by intro h; cases h); rw [show D.toN .d5 = 5 from rfl] at this; exact key c5 (by rw [this]; exact h5) h
 ·have:=ofN_lt hd (by intro h; cases h); rw [show D.toN .d6 = 6 from rfl] at this; exact key c6 (by rw [this]; exact h6) h
 ·have:=ofN_lt hd (by intro h; cases h); rw [show D.toN .d7 = 7 from rfl] at this; exact key c7 (by rw [this]; exact h7) h
 ·have:=ofN_lt hd (by intro h; cases h); rw [show D.toN .d8 = 8 from rfl] at this; exact key c8 (by rw [this]; exact h8) h
 ·have:=ofN_lt hd (by intro h; cases h); rw [show D.toN .d9 = 9 from rfl] at this; exact key c9 (by rw [this]; exact h9) h
 ·have:=ofN_lt hd (by intro h; cases h); rw [show D.toN .d10 = 10 from rfl] at this; exact key ca (by rw [this]; exact h10) h
 ·have:=ofN_lt hd (by intro h; cases h); rw [show D.toN .d11 = 11 from rfl] at this; exact key cb (by rw [this]; exact h11) h
 ·have:=ofN_lt hd (by intro h; cases h); rw [show D.toN .d12 = 12 from rfl] at this; exact key cc (by rw [this]; exact h12) h
 ·have:=ofN_lt hd (by intro h; cases h); rw [show D.toN .d13 = 13 from rfl] at this; exact key cd (by rw [this]; exact h13) h
 ·have:=ofN_lt hd (by intro h; cases h); rw [show D.toN .d14 = 14 from rfl] at this; exact key ce (by rw [this]; exact h14) h
 ·have h : FA.sel (D.ofN (f % 16)) (FB.sel (D.ofN (f / 16 % 16)) noB) = some e:=h
  rw [noB_sel,noA_sel] at h; cases h
def envAp (P : Program) (fs : List Nat) : Env:={ v:=fun _=>.bool true,ap:=fun f=>@Bool.rec (fun _=>Option ApC) none (apOf P f) (fs.contains f) }
def hasBody (P : Program) (g : FuncId) : Bool:=match P.funcs[g]? with
 | some fn=>fn.body.isSome && !(fn.name == "runtime.NumGoroutine")
 | none=>false
theorem hasBody_ok {g : FuncId} (h : hasBody P g = true) : HasBody P g:=by
 unfold hasBody at h
 split at h
 ·rename_i fn hfn
  simp only [Bool.and_eq_true,Bool.not_eq_true'] at h
  obtain ⟨c,hc⟩:=Option.isSome_iff_exists.1 h.1
  exact ⟨fn,c,hfn,hc,h.2⟩
 ·cases h
def rdFn (P : Program) (f : FuncId) : Option Rd:=(apOf P f).bind (rdOf P)
theorem ApEnt.mk {fs : List Nat} {f : FuncId} {its : List Nat} {rd : Rd} (hf : fs.contains f = true) (h : rdFn P f = some rd) (hb : its.all (hasBody P) = true) : ApEnt P (envAp P fs) f (.ap f its rd):=by
 unfold rdFn at h
 cases hA : apOf P f with
 | none=>rw [hA] at h; cases h
 | some A =>
  rw [hA] at h
  exact ⟨its,rd,A,rfl,by show @Bool.rec (fun _=>Option ApC) none (apOf P f) (fs.contains f) = _; rw [hf]; exact hA,hA,h,fun g hg=>hasBody_ok (List.all_eq_true.1 hb g hg)⟩
theorem OKO.apE {f : FuncId} {e : Ent} (h : ApEnt P ρ f e) : OKO P ρ B f (some e):=fun e' h'=>by cases h'; exact .inr (.inr (.inl h))
theorem TabOK.mk {fs : List Nat} {T : FC} (h : ∀ f e,tabG (fnKey f) T = some e → EGood P (envAp P fs) B f e) (ha : ∀ f ∈ fs,∃ e,tabG (fnKey f) T = some e ∧ ApEnt P (envAp P fs) f e) : TabOK P (envAp P fs) B T:=by
 refine ⟨h,fun f A hA=>?_⟩
 have hA : @Bool.rec (fun _=>Option ApC) none (apOf P f) (fs.contains f) = some A:=hA
 cases hc : fs.contains f with
 | false=>rw [hc] at hA; cases hA
 | true=>exact ha f (List.contains_iff_mem.1 hc)
theorem ha_nil {Q : Nat → Prop} : ∀ f ∈ ([] : List Nat),Q f:=fun f h=>by cases h
theorem ha_cons {Q : Nat → Prop} {x : Nat} {l : List Nat} (h : Q x) (k : ∀ f ∈ l,Q f) : ∀ f ∈ x :: l,Q f:=fun f hf=>by
 rcases List.mem_cons.1 hf with rfl | hf
 ·exact h
 ·exact k f hf
theorem law2_call (hρ : OneSym ρ) (hm : P.follows .mixedOrders = true) {T : FC} (hT : ∀ B,TabOK P ρ B T) {m : Nat} {f : FuncId} {fn : Func} {args : List V}
  (hf : P.funcs[f]? = some fn) (hb : fn.body.isSome = true) (hn : (fn.name == "runtime.NumGoroutine") = false) (hx : rTrue (call2 T m (fnKey f) args hempty n00) = true) {xs : Array Value} (hr : rels ρ (fun _=>none) args xs.toList) (w : World) (hgl : GlAt ρ w:=by intro b c e fr h; have h : (none : Option (Array Value × TypeId × (Nat × Nat))) = some (c,e,fr):=h; cases h) :
  Calls P f xs w fun e w'=>e = .returned (.bool true) ∧ Below w.heap.size w w':=by
 obtain ⟨h1,n1,hx⟩:=rTrue_rv hx
 obtain ⟨c,hc⟩:=Option.isSome_iff_exists.1 hb
 have:=calls_of_runs (R:=fun x w'=>x = .bool true ∧ Below w.heap.size w w') hf hc (by simpa using hn) (fun o a K Q hK =>
  call2_ok (B:=w.heap.size) hρ hm (hT _) m f args hempty n00 _ h1 n1 hx (fun _=>none) w xs (gam_start w n00 hgl) hr o a K Q fun x w' ⟨φ',f1,_,hr⟩=>hK x w' ⟨by simpa only [rel] using hr,below_of_fr f1⟩)
 refine this.mono fun e w' he=>?_
 cases e with
 | returned v=>exact ⟨by rw [he.1],he.2⟩
 | _=>exact he.elim
end
end Go.Ev

namespace Go.Ev
set_option linter.unusedVariables false
open Go.RowKit
def pClone : Prim:=fun args h n =>
 unK args fun v l=>nlK l (asMap v (.fail "a nil map") fun p=>mpR p h fun es bs c=>newR h n (.m es bs c) fun h n'=>.rv (.map n) h n')
def cloneOf (P : Program) (f : FuncId) : Option FuncId :=
 match P.funcs[f]? with
 | some fn=>match fn.body with
  | some (.seq (.region _ r0 false) (.seq (.seq (.region _ r1 false) (.cond (.tmp 4) _ .skip)) (.seq (.region _ r3 false) .ret))) =>
   match r0.toList,r1.toList,r3.toList,fn.results.toList with
   | [o1],[o2,o3],[o4,o5,o6,o7,o8],[.tmp s2]=>match o1.op,o2.op,o3.op,o4.op,o5.op,o6.op,o7.op,o8.op with
    | .assign (.const c1),.move (.tmp s0),.binOp .eql t3 (.tmp s3) (.const (.map none)) _,.move (.tmp s0'),.makeInterface t5 (.tmp s5),.call ct,.typeAssert (.tmp s7) _ t7 false,.assign (.tmp s8) =>
     match ct.callee,ct.args.toList,P.underlying t5 with
     | .value (.func g),[.tmp s6],some (.map _ _) =>
      if (fn.name == "runtime.NumGoroutine") = false ∧ fn.ntmps = 9 ∧ s2 = 2 ∧ s0 = 0 ∧ s0' = 0 ∧ s3 = 3 ∧ s5 = 5 ∧ s6 = 6 ∧ s7 = 7 ∧ s8 = 8 ∧ t3 = t5 ∧ t7 = t5 ∧ o1.dst = some 2 ∧ o2.dst = some 3 ∧ o3.dst = some 4 ∧ o4.dst = some 5 ∧ o5.dst = some 6 ∧ o6.dst = some 7 ∧ o7.dst = some 8 ∧ o8.dst = some 2 ∧
       o1.guard = none ∧ o2.guard = none ∧ o3.guard = none ∧ o4.guard = none ∧ o5.guard = none ∧ o6.guard = none ∧ o7.guard = none ∧ o8.guard = none then some g else none
     | _,_,_=>none
    | _,_,_,_,_,_,_,_=>none
   | _,_,_,_=>none
  | _=>none
 | none=>none
section
variable {P : Program} {ρ : Env} {B : Nat}
theorem run_eql_map (w : World) (t k e : TypeId) (p : Option Nat) (h : P.underlying t = some (.map k e)) : (binOp .eql t (.map p) (.map none)).run P w = .ok (.bool p.isNone) w:=by
 have key : ∀ d,(Op.equalIn (d + 1) t (.map p) (.map none)).run P w = .ok p.isNone w:=fun d=>by cases p <;> simp [Op.equalIn,run_underlying h]
 simp only [binOp]
 simp [show Op.equal t (.map p) (.map none) = Op.equalIn (9999 + 1) t (.map p) (.map none) from rfl,key 9999]
theorem run_assert_map (w : World) (t xT k e : TypeId) (v : Value) (h : P.underlying t = some (.map k e)) : (Instr.typeAssert (.iface t v) xT t false).run P w = .ok v w:=by
 simp [Instr.typeAssert,run_underlying h,go_sem,Result.andThen]
theorem run_clone {w : World} {r : Nat} {es : Array MapEntry} {c : Nat} (t : TypeId) (hb : w.heap[r]? = some (.map es c)) :
  (Extern.MapsClone.clone #[.iface t (.map (some r))]).run P w = .ok (.iface t (.map (some w.heap.size))) (w.alloc (.map es c)):=by
 have e : Extern.MapsClone.clone #[.iface t (.map (some r))] = (getObj r >>= fun o=>match o with
   | .map entries clock=>(newObj (.map entries clock) >>= fun n=>pure (.iface t (.map (some n))))
   | _=>stuck "maps.clone: a map expected"):=rfl
 rw [e]
 have hg : (getObj r).run P w = .ok (.map es c) w:=by simp [getObj,Sem.run,hb]
 simp [hg,Result.andThen,go_sem]
theorem clone_ok {f g : FuncId} (hc : cloneOf P f = some g) (b : Bare P g Extern.MapsClone.clone) : PrimOK P ρ B f pClone:=by
 intro args h n v h1 n1 hx φ w xs gm hr
 have hg : (pClone args h n).good:=by rw [hx]; trivial
 unfold pClone at hx hg
 obtain ⟨m,l,rfl,q1⟩:=unK_good hg
 rw [q1] at hx hg
 obtain ⟨rfl,q2⟩:=nlK_good hg
 rw [q2] at hx hg
 rcases asMap_good hg with ⟨_,q3⟩ | ⟨p,rfl,q3⟩
 ·rw [q3] at hg; exact hg.elim
 rw [q3,mpR_eq] at hx hg
 obtain ⟨es,bs,c,hp,q4⟩:=mpK_good hg
 rw [q4,newR_eq] at hx hg
 obtain ⟨n',hn,q5⟩:=newK_good hg
 rw [q5] at hx
 cases hx
 obtain ⟨X,l0,hX,r0,hl0⟩:=rels_cons.1 hr
 have hl0:=rels_nil.1 hl0
 subst hl0
 obtain ⟨bk,s,tot,hφ,rfl⟩:=rel_map r0
 obtain ⟨ents,k1,k2,k3⟩:=gm.obj p _ bk s tot hp hφ
 have hxe : xs = #[.map (some bk)]:=by cases xs; simp at hX; rw [hX]
 subst hxe
 unfold cloneOf at hc
 split at hc
 next fn hfn =>
  split at hc
  next i0 r0 i1 r1 cthen i3 r3 hbody =>
   split at hc
   next o1 o2 o3 o4 o5 o6 o7 o8 s2 e0 e1 e3 ers =>
    split at hc
    next c1 s0 t3 s3 t3' s0' t5 s5 ct s7 t7' t7 s8 p1 p2 p3 p4 p5 p6 p7 p8 =>
     split at hc
     next g' s6 kt et hcal hargs hu =>
      split at hc
      next hc' =>
       cases hc
       obtain ⟨hname,hnt,rfl,rfl,rfl,rfl,rfl,rfl,rfl,rfl,rfl,rfl,d1,d2,d3,d4,d5,d6,d7,d8,g1,g2,g3,g4,g5,g6,g7,g8⟩:=hc'
       have hres : fn.results = #[.tmp 2]:=by cases hh : fn.results with | mk l=>rw [hh] at ers; simp at ers; rw [ers]
       have hcargs : ct.args = #[.tmp 6]:=by cases hh : ct.args with | mk l=>rw [hh] at hargs; simp at hargs; rw [hargs]
       have e1' : (callFunc f #[.map (some bk)]).run P w = .ok (.enter f #[.map (some bk)]) w:=by
        have hname' : fn.name ≠ "runtime.NumGoroutine":=by simpa using hname
        simp [callFunc,hfn,hname',hbody]
       intro o a K Q hK
       rw [e1']
       refine (callsIn_wide (n:=0)).1 (callsIn_of_wp_marks hfn hbody trivial ?_ rfl)
       rw [hnt]
       simp only [List.size_toArray,List.length_cons,List.length_nil,Nat.reduceAdd,Nat.reduceSub,Array.replicate_succ,Array.replicate_zero,List.push_toArray,List.append_toArray,List.nil_append,List.cons_append]
       refine wpIn_seq (wpIn_region_list ?_)
       rw [e0]
       refine wpListIn_plain g1 fun K1 hK1=>wpIn_value (x:=c1) (w':=w) (by simp [execOp,p1,Act.eval]) (hK1 _ _ ?_)
       refine wpListIn_nil ?_
       refine wpIn_seq (wpIn_seq (wpIn_region_list ?_))
       rw [e1,d1]
       refine wpListIn_plain g2 fun K2 hK2=>wpIn_value (x:=.map (some bk)) (w':=w) (by simp [execOp,p2,Act.eval,Act.put]) (hK2 _ _ ?_)
       rw [d2]
       refine wpListIn_plain g3 fun K3 hK3=>wpIn_value (x:=.bool false) (w':=w) (by simp [execOp,p3,Act.eval,Act.put,eqGuard,run_eql_map w _ _ _ _ hu]) (hK3 _ _ ?_)
       rw [d3]
       refine wpListIn_nil (wpIn_cond_false (by simp [Act.eval,Act.put]) (wpIn_skip ?_))
       refine wpIn_seq (wpIn_region_list ?_)
       rw [e3]
       refine wpListIn_plain g4 fun K4 hK4=>wpIn_value (x:=.map (some bk)) (w':=w) (by simp [execOp,p4,Act.eval,Act.put]) (hK4 _ _ ?_)
       rw [d4]
       refine wpListIn_plain g5 fun K5 hK5=>wpIn_value (x:=.iface t7 (.map (some bk))) (w':=w) (by simp [execOp,p5,Act.eval,Act.put,Instr.makeInterface,run_underlying hu]) (hK5 _ _ ?_)
       rw [d5]
       refine wpListIn_plain g6 fun K6 hK6=>wpIn_value (x:=.iface t7 (.map (some w.heap.size))) (w':=w.alloc (.map ents c)) (by
        simp only [execOp,p6,resolve,hcal,hcargs,Deferred.ofValue,Act.eval,Act.put]
        have:=b.run (run_clone (P:=P) t7 k1)
        simp [invoke,Act.eval,this]) (hK6 _ _ ?_)
       rw [d6]
       refine wpListIn_plain g7 fun K7 hK7=>wpIn_value (x:=.map (some w.heap.size)) (w':=w.alloc (.map ents c)) (by simp [execOp,p7,Act.eval,Act.put,run_assert_map _ _ _ _ _ _ hu]) (hK7 _ _ ?_)
       rw [d7]
       refine wpListIn_plain g8 fun K8 hK8=>wpIn_value (x:=.map (some w.heap.size)) (w':=w.alloc (.map ents c)) (by simp [execOp,p8,Act.eval,Act.put]) (hK8 _ _ ?_)
       rw [d8]
       refine wpListIn_nil (wpIn_ret ?_)
       show LeavesInM Fence.wide 0 P fn _ _ [] .returning (w.alloc (.map ents c))
       unfold LeavesInM LeavesIn
       refine ⟨.map (some w.heap.size),by simp [results,hres,Act.put],?_⟩
       refine hK _ _ ⟨updE φ n (w.heap.size,0,0),Fr.alloc gm.at_n (by omega) (Nat.le_refl _) (by omega) _ _ 0,gm.alloc gm.at_n (by omega) (by omega) (.m es bs c) rfl _ 0 fun φ' hle w' hw'=>⟨ents,hw',EsOK_mono hle k2,k3⟩,?_⟩
       simp only [rel]
       exact ⟨w.heap.size,0,0,updE_same _ _ _,rfl⟩
      next=>cases hc
     next=>cases hc
    next=>cases hc
   next=>cases hc
  next=>cases hc
 next=>cases hc
end
end Go.Ev

namespace Go.Ev
set_option linter.unusedVariables false
theorem HA.setS_sel (d : D) (p : HA) : HA.setS d p (HA.sel d p) = p:=by cases d <;> cases p <;> rfl
theorem HB.setS_sel (d : D) (p : HB) : HB.setS d p (HB.sel d p) = p:=by cases d <;> cases p <;> rfl
theorem HC.setS_sel (d : D) (p : HC) : HC.setS d p (HC.sel d p) = p:=by cases d <;> cases p <;> rfl
theorem Heap.setS_sel (d : D) (p : Heap) : Heap.setS d p (Heap.sel d p) = p:=by cases d <;> cases p <;> rfl
theorem hputS_hget (p : K4) (h : Heap) : hputS p h (hget p h) = h:=by
 cases p
 simp only [hget,hputS,hput,Heap.setK_eq,HC.setK_eq,HB.setK_eq,HA.setK_eq,Heap.selK_eq,HC.selK_eq,HB.selK_eq,id,HA.setS_sel,HB.setS_sel,HC.setS_sel,Heap.setS_sel]
def onX (r : R) (κ : S → Heap → K4 → R) : R :=
 @R.rec (fun _=>R) (fun e t h n=>@Ex.rec (fun _=>R) (κ t h n) (fun id=>.ok (.exit id) t h n) (.ok .ret t h n) e) (fF3 "round") (fun w=>.fail w) (fun _ _ a b=>.both a b) r
abbrev Leap:=S → Heap → (Nat → S → R) → R → R
def roundX (body : S → Heap → K4 → R) (ih : Nat → S → Heap → K4 → R) (k : Nat) (t : S) (h : Heap) (n : K4) : R :=
 @Nat.rec (fun _=>R) (.fail "rounds") (fun k _=>onX (body t h n) (ih k)) k
def leapK (body : S → Heap → K4 → R) (J : Leap) (r : Nat) : Nat → S → Heap → K4 → R :=
 @Nat.rec (fun _=>Nat → S → Heap → K4 → R) (fun k=>itK body k)
  (fun _ ih k t h n=>J t h (fun j t'=>br (Nat.ble j k) (forceN (Nat.sub k j) fun k=>roundX body ih k t' h n) (itK body k t h n)) (roundX body ih k t h n)) r
def leapX (body : S → Heap → K4 → R) (J : Leap) : S → Heap → K4 → R:=leapK body J 1000000 1000000000
def LeapOK (body : S → Heap → K4 → R) (J : Leap) : Prop :=
 ∀ t h κ κ0,J t h κ κ0 = κ0 ∨ ∃ j t',J t h κ κ0 = κ j t' ∧ ∀ k n,itK body (j + k) t h n = itK body k t' h n
theorem itK_round (body : S → Heap → K4 → R) : ∀ (k : Nat) (t : S) (h : Heap) (n : K4),itK body k t h n = roundX body (itK body) k t h n
 | 0,_,_,_=>rfl
 | _ + 1,_,_,_=>rfl
theorem leap_eq {body : S → Heap → K4 → R} {J : Leap} (H : LeapOK body J) : ∀ (r k : Nat),leapK body J r k = itK body k:=by
 intro r
 induction r with
 | zero=>exact fun _=>rfl
 | succ r ih =>
  intro k
  funext t h n
  have e0 : leapK body J (r + 1) k t h n = J t h (fun j t'=>br (Nat.ble j k) (forceN (Nat.sub k j) fun k=>roundX body (leapK body J r) k t' h n) (itK body k t h n)) (roundX body (leapK body J r) k t h n):=rfl
  have ih : leapK body J r = itK body:=funext ih
  rw [e0,ih]
  rcases H t h (fun j t'=>br (Nat.ble j k) (forceN (Nat.sub k j) fun k=>roundX body (itK body) k t' h n) (itK body k t h n)) (roundX body (itK body) k t h n) with e | ⟨j,t',e,hj⟩
  ·rw [e,← itK_round]
  ·rw [e]
   cases hb : Nat.ble j k with
   | false=>rfl
   | true =>
    have hb:=Nat.le_of_ble_eq_true hb
    show forceN (Nat.sub k j) (fun k=>roundX body (itK body) k t' h n) = _
    rw [forceN_eq,← itK_round,show Nat.sub k j = k - j from rfl,← hj (k - j) n,show j + (k - j) = k by omega]
theorem loop_leap {body : S → Heap → K4 → R} {J : Leap} (H : LeapOK body J) : loopX body = leapX body J:=(leap_eq H 1000000 1000000000).symm
def dirtyB : S → Heap → K4 → R:=fun t h n=>g7 t fun z20=>g6 t fun z21=>b_lss z20 z21 fun z22=>vif z22 (blockX 2 (g5 t fun z23=>v_nilck z23 fun z24=>v_fad 2 z24 fun z25=>v_ld z25 h fun z26=>g2 t fun z27=>b_add z27 z20 fun z28=>b_quo z28 (.int .i64 64) fun z29=>v_mu (.sc .i) z26 z29 (.bool true) h fun h=>.ok .nrm t h n) fun t h n=>g7 t fun z2a=>b_add z2a (.int .i64 1) fun z2b=>w7 t z2b fun t=>.ok .nrm t h n)<|.ok (.exit 1) t h n
def i64E (v : V) (κ0 : R) (κ : Nat → R) : R :=
 @V.rec (fun _=>R) (fun _=>Unit) (fun k r=>br (kbeq k .i64) (κ r) κ0) (fun _=>κ0) (fun _ _=>κ0) (fun _ _ _ _ _ _=>κ0) (fun _ _=>κ0) (fun _ _=>κ0) (fun _=>κ0) (fun _=>κ0) (fun _ _ _=>κ0) (fun _ _=>κ0) (fun _=>κ0) () (fun _ _ _ _=>()) v
def ptrE (v : V) (κ0 : R) (κ : K4 → Nat → R) : R :=
 @V.rec (fun _=>R) (fun _=>Unit) (fun _ _=>κ0) (fun _=>κ0) (fun p o=>κ p o) (fun _ _ _ _ _ _=>κ0) (fun _ _=>κ0) (fun _ _=>κ0) (fun _=>κ0) (fun _=>κ0) (fun _ _ _=>κ0) (fun _ _=>κ0) (fun _=>κ0) () (fun _ _ _ _=>()) v
def mapE (v : V) (κ0 : R) (κ : K4 → R) : R :=
 @V.rec (fun _=>R) (fun _=>Unit) (fun _ _=>κ0) (fun _=>κ0) (fun _ _=>κ0) (fun _ _ _ _ _ _=>κ0) (fun _ _=>κ0) (fun _ _=>κ0) (fun _=>κ0) (fun p=>κ p) (fun _ _ _=>κ0) (fun _ _=>κ0) (fun _=>κ0) () (fun _ _ _ _=>()) v
def isTrue (v : V) : Bool :=
 @V.rec (fun _=>Bool) (fun _=>Unit) (fun _ _=>false) (fun b=>b) (fun _ _=>false) (fun _ _ _ _ _ _=>false) (fun _ _=>false) (fun _ _=>false) (fun _=>false) (fun _=>false) (fun _ _ _=>false) (fun _ _=>false) (fun _=>false) () (fun _ _ _ _=>()) v
def nthE (m : Nat) : List V → R → (V → R) → R :=
 @Nat.rec (fun _=>List V → R → (V → R) → R) (fun xs κ0 k=>@List.rec V (fun _=>R) κ0 (fun x _ _=>k x) xs)
  (fun _ ih xs κ0 k=>@List.rec V (fun _=>R) κ0 (fun _ ys _=>ih ys κ0 k) xs) m
def cellE (o : OOb) (i : Nat) (κ0 : R) (κ : V → R) : R :=
 @Option.rec Ob (fun _=>R) κ0 (fun o=>@Ob.rec (fun _=>R) (fun cs _ _=>@Cs.rec (fun _=>R) (fun xs=>nthE i xs κ0 κ) (fun _ _=>κ0) cs) (fun _ _ _=>κ0) (fun _ _ _ _=>κ0) κ0 (fun _ _=>κ0) o) o
def entsE (o : OOb) (κ0 : R) (κ : List (V × V) → List Nat → R) : R :=
 @Option.rec Ob (fun _=>R) κ0 (fun o=>@Ob.rec (fun _=>R) (fun _ _ _=>κ0) (fun es bs _=>κ es bs) (fun _ _ _ _=>κ0) κ0 (fun _ _=>κ0) o) o
def hitB (k : Nat) (es : List (V × V)) : Bool :=
 @List.rec (V × V) (fun _=>Bool) false (fun e _ ih=>@Prod.rec V V (fun _=>Bool) (fun a b=>@V.rec (fun _=>Bool) (fun _=>Unit) (fun kd r=>br (kbeq kd .i64) (br (Nat.beq k r) (isTrue b) ih) false) (fun _=>false) (fun _ _=>false) (fun _ _ _ _ _ _=>false) (fun _ _=>false) (fun _ _=>false) (fun _=>false) (fun _=>false) (fun _ _ _=>false) (fun _ _=>false) (fun _=>false) () (fun _ _ _ _=>()) a) e) es
def dirtyJ : Leap:=fun t h κ κ0=>g7 t fun i=>g6 t fun m=>g2 t fun a=>g5 t fun x =>
 i64E i κ0 fun i0=>i64E m κ0 fun m0=>i64E a κ0 fun a0=>ptrE x κ0 fun p off=>hgetR p h fun o=>cellE o (Nat.add off 2) κ0 fun u=>mapE u κ0 fun q=>hgetR q h fun o=>entsE o κ0 fun es bs =>
  br (Nat.ble m0 4611686018427387904) (br (Nat.ble a0 4611686018427387904) (br (Nat.ble i0 m0) (br (sameLn es bs) (forceN (Nat.div (Nat.add a0 i0) 64) fun k=>br (hitB k es)
   (forceN (Nat.sub m0 i0) fun j1=>forceN (Nat.sub (Nat.mul 64 (Nat.succ k)) (Nat.add a0 i0)) fun j2=>br (Nat.ble j1 j2) (forceN (Nat.add i0 j1) fun i=>w7 t (.int .i64 i) fun t=>κ j1 t) (forceN (Nat.add i0 j2) fun i=>w7 t (.int .i64 i) fun t=>κ j2 t))
   κ0) κ0) κ0) κ0) κ0
theorem i64E_dec (v : V) (κ0 : R) (κ : Nat → R) : i64E v κ0 κ = κ0 ∨ ∃ r,v = .int .i64 r ∧ i64E v κ0 κ = κ r:=by
 cases v with
 | int k r =>
  show br (kbeq k .i64) (κ r) κ0 = κ0 ∨ ∃ r',V.int k r = .int .i64 r' ∧ br (kbeq k .i64) (κ r) κ0 = κ r'
  cases hb : kbeq k .i64 with
  | false=>exact .inl rfl
  | true=>exact .inr ⟨r,by rw [kbeq_iff.1 hb],rfl⟩
 | _=>exact .inl rfl
theorem ptrE_dec (v : V) (κ0 : R) (κ : K4 → Nat → R) : ptrE v κ0 κ = κ0 ∨ ∃ p o,v = .ptr p o ∧ ptrE v κ0 κ = κ p o:=by
 cases v with
 | ptr p o=>exact .inr ⟨p,o,rfl,rfl⟩
 | _=>exact .inl rfl
theorem mapE_dec (v : V) (κ0 : R) (κ : K4 → R) : mapE v κ0 κ = κ0 ∨ ∃ p,v = .map p ∧ mapE v κ0 κ = κ p:=by
 cases v with
 | map p=>exact .inr ⟨p,rfl,rfl⟩
 | _=>exact .inl rfl
theorem nthE_dec : ∀ (m : Nat) (xs : List V) (κ0 : R) (κ : V → R),nthE m xs κ0 κ = κ0 ∨ ∃ v,xs[m]? = some v ∧ nthE m xs κ0 κ = κ v
 | 0,[],_,_=>.inl rfl
 | 0,x :: _,_,_=>.inr ⟨x,rfl,rfl⟩
 | m + 1,[],_,_=>.inl rfl
 | m + 1,x :: xs,κ0,κ=>nthE_dec m xs κ0 κ
theorem nthK_some : ∀ {m : Nat} {xs : List V} {v : V} {κ : V → R},xs[m]? = some v → nthK m xs κ = κ v
 | 0,[],_,_,h=>by cases h
 | 0,x :: _,_,_,h=>by cases h; rfl
 | m + 1,[],_,_,h=>by cases h
 | m + 1,x :: xs,v,κ,h=>nthK_some (m:=m) (xs:=xs) h
theorem cellE_dec (o : OOb) (i : Nat) (κ0 : R) (κ : V → R) : cellE o i κ0 κ = κ0 ∨ ∃ xs sup prev v,o = some (.c (.l xs) sup prev) ∧ xs[i]? = some v ∧ cellE o i κ0 κ = κ v:=by
 cases o with
 | none=>exact .inl rfl
 | some o=>cases o with
  | c cs sup prev=>cases cs with
   | l xs =>
    rcases nthE_dec i xs κ0 κ with e | ⟨v,h,e⟩
    ·exact .inl e
    ·exact .inr ⟨xs,sup,prev,v,rfl,h,e⟩
   | b _ _=>exact .inl rfl
  | _=>exact .inl rfl
theorem entsE_dec (o : OOb) (κ0 : R) (κ : List (V × V) → List Nat → R) : entsE o κ0 κ = κ0 ∨ ∃ es bs c,o = some (.m es bs c) ∧ entsE o κ0 κ = κ es bs:=by
 cases o with
 | none=>exact .inl rfl
 | some o=>cases o with
  | m es bs c=>exact .inr ⟨es,bs,c,rfl,rfl⟩
  | _=>exact .inl rfl
theorem isTrue_iff {v : V} (h : isTrue v = true) : v = .bool true:=by
 cases v with
 | bool b=>rw [show b = true from h]
 | _=>cases h
theorem hit_upd {k : Nat} : ∀ {es : List (V × V)} {κ : List (V × V) → R},hitB k es = true → updK (.sc .i) (.int .i64 k) (.bool true) es κ = κ es
 | [],κ,h=>by cases h
 | (a,b) :: es,κ,h=>by
  cases a with
  | int kd r =>
   have h : br (kbeq kd .i64) (br (Nat.beq k r) (isTrue b) (hitB k es)) false = true:=h
   cases hk : kbeq kd .i64 with
   | false=>rw [hk] at h; cases h
   | true =>
    have hkd:=kbeq_iff.1 hk
    subst hkd
    have hx : br (Nat.beq k r) (isTrue b) (hitB k es) = true:=h
    have e0 : updK (.sc .i) (.int .i64 k) (.bool true) ((.int .i64 r,b) :: es) κ = forceB (Nat.beq k r) fun q=>br q (κ ((.int .i64 k,.bool true) :: es)) (updK (.sc .i) (.int .i64 k) (.bool true) es fun l=>κ ((.int .i64 r,b) :: l)):=rfl
    rw [e0,forceB_eq]
    cases hb : Nat.beq k r with
    | true =>
     rw [hb] at hx
     rw [isTrue_iff (show isTrue b = true from hx),Nat.eq_of_beq_eq_true hb]; rfl
    | false =>
     rw [hb] at hx
     exact hit_upd (κ:=fun l=>κ ((.int .i64 r,b) :: l)) (show hitB k es = true from hx)
  | _=>cases h
theorem lss_t {a b : Nat} {κ : V → R} (h : a < b) (hb : b ≤ 4611686018427387904) : b_lss (.int .i64 a) (.int .i64 b) κ = κ (.bool true):=by
 have e0 : b_lss (.int .i64 a) (.int .i64 b) κ = forceB (br (Nat.ble 9223372036854775808 a) (br (Nat.ble 9223372036854775808 b) (Nat.ble (Nat.succ a) b) true) (br (Nat.ble 9223372036854775808 b) false (Nat.ble (Nat.succ a) b))) fun r=>κ (.bool r):=rfl
 have h1 : Nat.ble 9223372036854775808 a = false:=Bool.eq_false_iff.2 fun h=>by have:=Nat.le_of_ble_eq_true h; omega
 have h2 : Nat.ble 9223372036854775808 b = false:=Bool.eq_false_iff.2 fun h=>by have:=Nat.le_of_ble_eq_true h; omega
 have h3 : Nat.ble (Nat.succ a) b = true:=Nat.ble_eq_true_of_le h
 rw [e0,forceB_eq,h1,h2,h3]; rfl
theorem add_64 {a b : Nat} {κ : V → R} (h : a + b < 18446744073709551616) : b_add (.int .i64 a) (.int .i64 b) κ = κ (.int .i64 (a + b)):=by
 have e0 : b_add (.int .i64 a) (.int .i64 b) κ = forceN (Nat.mod (Nat.add a b) 18446744073709551616) fun r=>κ (.int .i64 r):=rfl
 rw [e0,forceN_eq,show Nat.mod (Nat.add a b) 18446744073709551616 = a + b from Nat.mod_eq_of_lt h]
theorem quo_64 {a : Nat} {κ : V → R} (h : a < 9223372036854775808) : b_quo (.int .i64 a) (.int .i64 64) κ = κ (.int .i64 (a / 64)):=by
 have e0 : b_quo (.int .i64 a) (.int .i64 64) κ = br (Nat.ble (Nat.succ a) 9223372036854775808) (forceN (Nat.div a 64) fun r=>κ (.int .i64 r)) (.fail "negative"):=rfl
 rw [e0,show Nat.ble (Nat.succ a) 9223372036854775808 = true from Nat.ble_eq_true_of_le h]
 show forceN (Nat.div a 64) (fun r=>κ (V.int .i64 r)) = κ (V.int .i64 (a / 64))
 rw [forceN_eq]; rfl
theorem blockX_nrm {id : Nat} {t : S} {h : Heap} {n : K4} {κ : S → Heap → K4 → R} : blockX id (.ok .nrm t h n) κ = κ t h n:=rfl
theorem ld_at {p : K4} {off : Nat} {h : Heap} {xs : List V} {sup : Bool} {prev : Option K4} {v : V} {κ : V → R} (hp : hget p h = some (.c (.l xs) sup prev)) (hv : xs[off]? = some v) : v_ld (.ptr p off) h κ = κ v:=by
 show obR p h (fun cs _ _=>getC cs off κ) = _
 rw [obR_eq]
 have e : (obK p h fun cs _ _=>getC cs off κ) = @Option.rec Ob (fun _=>R) (.fail "no object") (fun o=>@Ob.rec (fun _=>R) (fun cs _ _=>getC cs off κ) (fF3 "cells expected") (fF4 "cells expected") (.fail "cells expected") (fF2 "cells expected") o) (hget p h):=hgetK_eq _ _ _
 rw [e,hp]
 exact nthK_some hv
theorem mu_at {q : K4} {h : Heap} {es : List (V × V)} {bs : List Nat} {c k : Nat} {κ : Heap → R} (hq : hget q h = some (.m es bs c)) (hs : sameLn es bs = true) (hh : hitB k es = true) : v_mu (.sc .i) (.map q) (.int .i64 k) (.bool true) h κ = κ h:=by
 show mopR q h (fun es bs c k'=>updK (.sc .i) (.int .i64 k) (.bool true) es fun es=>bsU es bs c fun bs c=>k' es bs c) κ = κ h
 rw [mopR_eq]
 have e : ∀ F,mpK q h F = @Option.rec Ob (fun _=>R) (.fail "no object") (fun o=>@Ob.rec (fun _=>R) (fF3 "map expected") F (fF4 "map expected") (.fail "map expected") (fF2 "map expected") o) (hget q h):=fun F=>hgetK_eq _ _ _
 rw [e,hq]
 show updK (.sc .i) (.int .i64 k) (.bool true) es (fun es'=>bsU es' bs c fun bs c=>hput q h (some (.m es' bs c)) κ) = κ h
 rw [hit_upd hh]
 unfold bsU
 rw [hs]
 show hput q h (some (.m es bs c)) κ = κ h
 rw [hput_eq,← hq,hputS_hget]
theorem dirty_round {d0 d1 d3 d4 : V} {c2 c3 c4 c5 c6 c7 : SQ} {h : Heap} {n p q : K4} {off i0 m0 a0 c : Nat} {xs : List V} {sup : Bool} {prev : Option K4} {es : List (V × V)} {bs : List Nat}
  (hp : hget p h = some (.c (.l xs) sup prev)) (hv : xs[off + 2]? = some (.map q)) (hq : hget q h = some (.m es bs c)) (hs : sameLn es bs = true) (hm : m0 ≤ 4611686018427387904) (ha : a0 ≤ 4611686018427387904) (hi : i0 < m0) (hh : hitB ((a0 + i0) / 64) es = true) :
  dirtyB (.mk (.mk d0 d1 (.int .i64 a0) d3) (.mk d4 (.ptr p off) (.int .i64 m0) (.int .i64 i0)) c2 c3 c4 c5 c6 c7) h n = .ok .nrm (.mk (.mk d0 d1 (.int .i64 a0) d3) (.mk d4 (.ptr p off) (.int .i64 m0) (.int .i64 (i0 + 1))) c2 c3 c4 c5 c6 c7) h n:=by
 have e1 : ∀ κ : V → R,v_nilck (.ptr p off) κ = κ (.ptr p off):=fun κ=>rfl
 have e2 : ∀ κ : V → R,v_fad 2 (.ptr p off) κ = κ (.ptr p (off + 2)):=fun κ=>by
  show forceN (Nat.add off 2) (fun o=>κ (.ptr p o)) = _
  rw [forceN_eq]
 unfold dirtyB
 show b_lss (.int .i64 i0) (.int .i64 m0) _ = _
 rw [lss_t hi hm]
 show blockX 2 (v_nilck (.ptr p off) _) _ = _
 rw [e1,e2,ld_at hp hv]
 show blockX 2 (b_add (.int .i64 a0) (.int .i64 i0) _) _ = _
 rw [add_64 (by omega),quo_64 (by omega),mu_at hq hs hh,blockX_nrm]
 show b_add (.int .i64 i0) (.int .i64 1) _ = _
 rw [add_64 (by omega)]
theorem dirty_rounds {d0 d1 d3 d4 : V} {c2 c3 c4 c5 c6 c7 : SQ} {h : Heap} {n p q : K4} {off m0 a0 c k : Nat} {xs : List V} {sup : Bool} {prev : Option K4} {es : List (V × V)} {bs : List Nat}
  (hp : hget p h = some (.c (.l xs) sup prev)) (hv : xs[off + 2]? = some (.map q)) (hq : hget q h = some (.m es bs c)) (hs : sameLn es bs = true) (hm : m0 ≤ 4611686018427387904) (ha : a0 ≤ 4611686018427387904) (hh : hitB k es = true) :
  ∀ (j i0 : Nat),i0 + j ≤ m0 → (∀ r,r < j → (a0 + (i0 + r)) / 64 = k) → ∀ K,itK dirtyB (j + K) (.mk (.mk d0 d1 (.int .i64 a0) d3) (.mk d4 (.ptr p off) (.int .i64 m0) (.int .i64 i0)) c2 c3 c4 c5 c6 c7) h n
   = itK dirtyB K (.mk (.mk d0 d1 (.int .i64 a0) d3) (.mk d4 (.ptr p off) (.int .i64 m0) (.int .i64 (i0 + j))) c2 c3 c4 c5 c6 c7) h n
 | 0,i0,_,_,K=>by rw [Nat.zero_add]; rfl
 | j + 1,i0,hj,hr,K=>by
  have h0:=hr 0 (by omega)
  rw [show j + 1 + K = (j + K) + 1 by omega,itK_round]
  show onX (dirtyB _ h n) (itK dirtyB (j + K)) = _
  rw [dirty_round hp hv hq hs hm ha (by omega) (by rw [show a0 + i0 = a0 + (i0 + 0) by omega,h0]; exact hh)]
  show itK dirtyB (j + K) _ h n = _
  rw [dirty_rounds hp hv hq hs hm ha hh j (i0 + 1) (by omega) (fun r hr'=>by have:=hr (r + 1) (by omega); rw [← this]; congr 2; omega) K,show i0 + 1 + j = i0 + (j + 1) by omega]
section
variable {G : R → Prop}
theorem i64E_ind {v : V} {κ0 : R} {κ : Nat → R} (g0 : G κ0) (g1 : ∀ r,v = .int .i64 r → G (κ r)) : G (i64E v κ0 κ):=by
 rcases i64E_dec v κ0 κ with e | ⟨r,h,e⟩ <;> rw [e]
 ·exact g0
 ·exact g1 r h
theorem ptrE_ind {v : V} {κ0 : R} {κ : K4 → Nat → R} (g0 : G κ0) (g1 : ∀ p o,v = .ptr p o → G (κ p o)) : G (ptrE v κ0 κ):=by
 rcases ptrE_dec v κ0 κ with e | ⟨p,o,h,e⟩ <;> rw [e]
 ·exact g0
 ·exact g1 p o h
theorem mapE_ind {v : V} {κ0 : R} {κ : K4 → R} (g0 : G κ0) (g1 : ∀ p,v = .map p → G (κ p)) : G (mapE v κ0 κ):=by
 rcases mapE_dec v κ0 κ with e | ⟨p,h,e⟩ <;> rw [e]
 ·exact g0
 ·exact g1 p h
theorem cellE_ind {o : OOb} {i : Nat} {κ0 : R} {κ : V → R} (g0 : G κ0) (g1 : ∀ xs sup prev v,o = some (.c (.l xs) sup prev) → xs[i]? = some v → G (κ v)) : G (cellE o i κ0 κ):=by
 rcases cellE_dec o i κ0 κ with e | ⟨xs,sup,prev,v,h,h',e⟩ <;> rw [e]
 ·exact g0
 ·exact g1 xs sup prev v h h'
theorem entsE_ind {o : OOb} {κ0 : R} {κ : List (V × V) → List Nat → R} (g0 : G κ0) (g1 : ∀ es bs c,o = some (.m es bs c) → G (κ es bs)) : G (entsE o κ0 κ):=by
 rcases entsE_dec o κ0 κ with e | ⟨es,bs,c,h,e⟩ <;> rw [e]
 ·exact g0
 ·exact g1 es bs c h
theorem br_ind {b : Bool} {x y : R} (g0 : G y) (g1 : b = true → G x) : G (br b x y):=by
 cases b with
 | false=>exact g0
 | true=>exact g1 rfl
theorem hgetR_ind {p : K4} {h : Heap} {κ : OOb → R} (g : G (κ (hget p h))) : G (hgetR p h κ):=by rw [hgetR_eq]; exact g
theorem forceN_ind {m : Nat} {κ : Nat → R} (g : G (κ m)) : G (forceN m κ):=by rw [forceN_eq]; exact g
end
theorem dirty_leap : LeapOK dirtyB dirtyJ:=by
 intro t h κ κ0
 cases t with
 | mk c0 c1 c2 c3 c4 c5 c6 c7 =>
  cases c0 with
  | mk d0 d1 a d3 =>
   cases c1 with
   | mk d4 x m i =>
    obtain ⟨T,hT⟩ : ∃ T : S,T = .mk (.mk d0 d1 a d3) (.mk d4 x m i) c2 c3 c4 c5 c6 c7:=⟨_,rfl⟩
    obtain ⟨G,hG⟩ : ∃ G : R → Prop,∀ r,G r ↔ (r = κ0 ∨ ∃ j t',r = κ j t' ∧ ∀ k n,itK dirtyB (j + k) T h n = itK dirtyB k t' h n):=⟨_,fun r=>Iff.rfl⟩
    have g0 : G κ0:=(hG _).2 (.inl rfl)
    rw [← hT]
    refine (hG _).1 ?_
    rw [hT]
    refine i64E_ind (G:=G) g0 fun i0 hi=>i64E_ind (G:=G) g0 fun m0 hm=>i64E_ind (G:=G) g0 fun a0 ha=>ptrE_ind (G:=G) g0 fun p off hx=>hgetR_ind (G:=G) (cellE_ind (G:=G) g0 fun xs sup prev u hp hv=>mapE_ind (G:=G) g0 fun q hu=>?_)
    subst hi hm ha hx hu
    refine hgetR_ind (G:=G) (entsE_ind (G:=G) g0 fun es bs c hq=>br_ind (G:=G) g0 fun b1=>br_ind (G:=G) g0 fun b2=>br_ind (G:=G) g0 fun b3=>br_ind (G:=G) g0 fun b4=>forceN_ind (G:=G) (br_ind (G:=G) g0 fun b5=>forceN_ind (G:=G) (forceN_ind (G:=G) ?_)))
    have b1:=Nat.le_of_ble_eq_true b1
    have b2:=Nat.le_of_ble_eq_true b2
    have b3:=Nat.le_of_ble_eq_true b3
    have e1 : Nat.sub m0 i0 = m0 - i0:=rfl
    have e2 : Nat.sub (Nat.mul 64 (Nat.succ (Nat.div (Nat.add a0 i0) 64))) (Nat.add a0 i0) = 64 * ((a0 + i0) / 64 + 1) - (a0 + i0):=rfl
    have e3 : Nat.div (Nat.add a0 i0) 64 = (a0 + i0) / 64:=rfl
    rw [e1,e2]
    rw [e3] at b5
    have key : ∀ j,j ≤ m0 - i0 → j ≤ 64 * ((a0 + i0) / 64 + 1) - (a0 + i0) → ∀ K n,itK dirtyB (j + K) (.mk (.mk d0 d1 (.int .i64 a0) d3) (.mk d4 (.ptr p off) (.int .i64 m0) (.int .i64 i0)) c2 c3 c4 c5 c6 c7) h n
      = itK dirtyB K (.mk (.mk d0 d1 (.int .i64 a0) d3) (.mk d4 (.ptr p off) (.int .i64 m0) (.int .i64 (i0 + j))) c2 c3 c4 c5 c6 c7) h n:=fun j hj1 hj2 K n =>
     dirty_rounds hp hv hq b4 b1 b2 b5 j i0 (by omega) (fun r hr=>by omega) K
    cases hb : Nat.ble (m0 - i0) (64 * ((a0 + i0) / 64 + 1) - (a0 + i0)) with
    | true =>
     rw [show ∀ x y : R,br true x y = x from fun _ _=>rfl,forceN_eq]
     refine (hG _).2 (.inr ⟨m0 - i0,_,rfl,fun K n=>?_⟩)
     rw [hT]
     exact key _ (Nat.le_refl _) (Nat.le_of_ble_eq_true hb) K n
    | false =>
     rw [show ∀ x y : R,br false x y = y from fun _ _=>rfl,forceN_eq]
     refine (hG _).2 (.inr ⟨64 * ((a0 + i0) / 64 + 1) - (a0 + i0),_,rfl,fun K n=>?_⟩)
     rw [hT]
     refine key _ ?_ (Nat.le_refl _) K n
     rcases Nat.lt_or_ge (64 * ((a0 + i0) / 64 + 1) - (a0 + i0)) (m0 - i0) with h' | h'
     ·omega
     ·rw [Nat.ble_eq_true_of_le h'] at hb; cases hb
theorem dirty_eq : loopX dirtyB = leapX dirtyB dirtyJ:=loop_leap dirty_leap
def crcB : S → Heap → K4 → R:=fun t h n=>g7 t fun ze=>b_lss ze (.int .i64 8) fun zf=>vif zf (blockX 3 (g3 t fun zg=>b_shr zg (.int .u64 1) fun zh=>b_and zg (.int .u32 1) fun zi=>v_neg zi fun zj=>b_and (.int .u32 2197175160) zj fun zk=>b_xor zh zk fun zl=>w3 t zl fun t=>.ok .nrm t h n) fun t h n=>g7 t fun zm=>b_add zm (.int .i64 1) fun zn=>w7 t zn fun t=>.ok .nrm t h n)<|.ok (.exit 2) t h n
def u32E (v : V) (κ0 : R) (κ : Nat → R) : R :=
 @V.rec (fun _=>R) (fun _=>Unit) (fun k r=>br (kbeq k .u32) (κ r) κ0) (fun _=>κ0) (fun _ _=>κ0) (fun _ _ _ _ _ _=>κ0) (fun _ _=>κ0) (fun _ _=>κ0) (fun _=>κ0) (fun _=>κ0) (fun _ _ _=>κ0) (fun _ _=>κ0) (fun _=>κ0) () (fun _ _ _ _=>()) v
def crcS (x : Nat) : Nat:=Nat.xor (Nat.shiftRight x 1) (Nat.land 2197175160 (Nat.mod (Nat.add 0 (Nat.sub 4294967296 (Nat.land x 1))) 4294967296))
def crcI (j : Nat) : Nat → Nat:=@Nat.rec (fun _=>Nat → Nat) (fun x=>x) (fun _ ih x=>ih (crcS x)) j
theorem u32E_ind {G : R → Prop} {v : V} {κ0 : R} {κ : Nat → R} (g0 : G κ0) (g1 : ∀ r,v = .int .u32 r → G (κ r)) : G (u32E v κ0 κ):=by
 cases v with
 | int k r =>
  show G (br (kbeq k .u32) (κ r) κ0)
  cases hb : kbeq k .u32 with
  | false=>exact g0
  | true=>exact g1 r (by rw [kbeq_iff.1 hb])
 | _=>exact g0
theorem crcS_lt {x : Nat} (h : x < 4294967296) : crcS x < 4294967296:=by
 have h1 : x >>> 1 < 2 ^ 32:=by rw [Nat.shiftRight_eq_div_pow]; omega
 have h2 : 2197175160 &&& ((0 + (4294967296 - (x &&& 1))) % 4294967296) < 2 ^ 32:=Nat.lt_of_le_of_lt Nat.and_le_left (by decide)
 exact Nat.xor_lt_two_pow h1 h2
theorem crc_round {d0 d1 d2 d4 d5 d6 : V} {c2 c3 c4 c5 c6 c7 : SQ} {h : Heap} {n : K4} {i x : Nat} (hi : i < 8) (hx : x < 4294967296) :
  crcB (.mk (.mk d0 d1 d2 (.int .u32 x)) (.mk d4 d5 d6 (.int .i64 i)) c2 c3 c4 c5 c6 c7) h n = .ok .nrm (.mk (.mk d0 d1 d2 (.int .u32 (crcS x))) (.mk d4 d5 d6 (.int .i64 (i + 1))) c2 c3 c4 c5 c6 c7) h n:=by
 have e1 : ∀ κ : V → R,b_shr (.int .u32 x) (.int .u64 1) κ = κ (.int .u32 (Nat.shiftRight x 1)):=fun κ=>by
  have e0 : b_shr (.int .u32 x) (.int .u64 1) κ = br (Nat.ble (Nat.succ x) 4294967296) (forceN (Nat.shiftRight x 1) fun r=>κ (.int .u32 r)) (.fail "shift of a negative number"):=rfl
  rw [e0,show Nat.ble (Nat.succ x) 4294967296 = true from Nat.ble_eq_true_of_le hx]
  show forceN (Nat.shiftRight x 1) (fun r=>κ (V.int .u32 r)) = _
  rw [forceN_eq]
 have e2 : ∀ (a b : Nat) (κ : V → R),b_and (.int .u32 a) (.int .u32 b) κ = κ (.int .u32 (Nat.land a b)):=fun a b κ=>by
  have e0 : b_and (.int .u32 a) (.int .u32 b) κ = forceN (Nat.land a b) fun r=>κ (.int .u32 r):=rfl
  rw [e0,forceN_eq]
 have e3 : ∀ (a b : Nat) (κ : V → R),b_xor (.int .u32 a) (.int .u32 b) κ = κ (.int .u32 (Nat.xor a b)):=fun a b κ=>by
  have e0 : b_xor (.int .u32 a) (.int .u32 b) κ = forceN (Nat.xor a b) fun r=>κ (.int .u32 r):=rfl
  rw [e0,forceN_eq]
 have e4 : ∀ (a : Nat) (κ : V → R),v_neg (.int .u32 a) κ = κ (.int .u32 (Nat.mod (Nat.add 0 (Nat.sub 4294967296 a)) 4294967296)):=fun a κ=>by
  have e0 : v_neg (.int .u32 a) κ = forceN (Nat.mod (Nat.add 0 (Nat.sub 4294967296 a)) 4294967296) fun r=>κ (.int .u32 r):=rfl
  rw [e0,forceN_eq]
 unfold crcB
 show b_lss (.int .i64 i) (.int .i64 8) _ = _
 rw [lss_t hi (by omega)]
 show blockX 3 (b_shr (.int .u32 x) (.int .u64 1) _) _ = _
 rw [e1,e2,e4,e2,e3,blockX_nrm]
 show b_add (.int .i64 i) (.int .i64 1) _ = _
 rw [add_64 (by omega)]; rfl
theorem crc_rounds {d0 d1 d2 d4 d5 d6 : V} {c2 c3 c4 c5 c6 c7 : SQ} {h : Heap} {n : K4} :
  ∀ (j i x : Nat),i + j ≤ 8 → x < 4294967296 → ∀ K,itK crcB (j + K) (.mk (.mk d0 d1 d2 (.int .u32 x)) (.mk d4 d5 d6 (.int .i64 i)) c2 c3 c4 c5 c6 c7) h n
   = itK crcB K (.mk (.mk d0 d1 d2 (.int .u32 (crcI j x))) (.mk d4 d5 d6 (.int .i64 (i + j))) c2 c3 c4 c5 c6 c7) h n
 | 0,i,x,_,_,K=>by rw [Nat.zero_add]; rfl
 | j + 1,i,x,hj,hx,K=>by
  rw [show j + 1 + K = (j + K) + 1 by omega,itK_round]
  show onX (crcB _ h n) (itK crcB (j + K)) = _
  rw [crc_round (by omega) hx]
  show itK crcB (j + K) _ h n = _
  rw [crc_rounds j (i + 1) (crcS x) (by omega) (crcS_lt hx) K,show i + 1 + j = i + (j + 1) by omega]; rfl
end Go.Ev

namespace Go.Ev
set_option linter.unusedVariables false
theorem crcS_eq (x : Nat) : crcS x = (x >>> 1) ^^^ (if x % 2 = 1 then 2197175160 else 0):=by
 show (x >>> 1) ^^^ (2197175160 &&& ((0 + (4294967296 - (x &&& 1))) % 4294967296)) = _
 rw [Nat.and_one_is_mod]
 rcases Nat.mod_two_eq_zero_or_one x with h | h <;> rw [h] <;> rfl
theorem crcS_xor (a b : Nat) : crcS (a ^^^ b) = crcS a ^^^ crcS b:=by
 rw [crcS_eq,crcS_eq,crcS_eq,Nat.shiftRight_xor_distrib]
 have h : (a ^^^ b) % 2 = (a + b) % 2:=by
  have e:=Nat.xor_mod_two_pow (a:=a) (b:=b) (n:=1)
  rw [Nat.pow_one] at e
  rw [e]
  rcases Nat.mod_two_eq_zero_or_one a with ha | ha <;> rcases Nat.mod_two_eq_zero_or_one b with hb | hb <;> rw [ha,hb,Nat.add_mod,ha,hb] <;> rfl
 rcases Nat.mod_two_eq_zero_or_one a with ha | ha <;> rcases Nat.mod_two_eq_zero_or_one b with hb | hb
 ·have : (a ^^^ b) % 2 = 0:=by omega
  simp [ha,hb,this]
 ·have : (a ^^^ b) % 2 = 1:=by omega
  simp [ha,hb,this,Nat.xor_assoc]
 ·have : (a ^^^ b) % 2 = 1:=by omega
  simp only [ha,hb,this,if_true,if_false,Nat.xor_zero,reduceIte,Nat.zero_ne_one]
  simp only [Nat.xor_assoc,Nat.xor_comm (b >>> 1)]
 ·have : (a ^^^ b) % 2 = 0:=by omega
  simp only [ha,hb,this,reduceIte,Nat.xor_zero,Nat.zero_ne_one]
  generalize a >>> 1 = p
  generalize b >>> 1 = q
  apply Nat.eq_of_testBit_eq
  intro i
  simp only [Nat.testBit_xor]
  cases p.testBit i <;> cases q.testBit i <;> cases (2197175160 : Nat).testBit i <;> rfl
theorem crcI_xor : ∀ (j a b : Nat),crcI j (a ^^^ b) = crcI j a ^^^ crcI j b
 | 0,_,_=>rfl
 | j + 1,a,b=>by
  show crcI j (crcS (a ^^^ b)) = crcI j (crcS a) ^^^ crcI j (crcS b)
  rw [crcS_xor,crcI_xor]
theorem crcS_even (m : Nat) : crcS (2 * m) = m:=by
 rw [crcS_eq,Nat.mul_mod_right,Nat.shiftRight_eq_div_pow]; simp
theorem crcI_pow : ∀ (j q : Nat),crcI j (2 ^ j * q) = q
 | 0,q=>by show 2 ^ 0 * q = q; omega
 | j + 1,q=>by
  show crcI j (crcS (2 ^ (j + 1) * q)) = q
  rw [show 2 ^ (j + 1) * q = 2 * (2 ^ j * q) by rw [Nat.pow_succ,Nat.mul_comm (2 ^ j) 2,Nat.mul_assoc],crcS_even,crcI_pow]
theorem split_256 (y : Nat) : y = (2 ^ 8 * (y / 2 ^ 8)) ^^^ (y % 2 ^ 8):=by
 apply Nat.eq_of_testBit_eq
 intro i
 rw [Nat.testBit_xor,Nat.testBit_two_pow_mul,Nat.testBit_mod_two_pow,Nat.testBit_div_two_pow]
 by_cases h : 8 ≤ i
 ·have h2 : ¬ i < 8:=by omega
  simp [h,h2,show i - 8 + 8 = i by omega]
 ·have h2 : i < 8:=by omega
  simp [h,h2]
theorem crcI_lt : ∀ (j : Nat) {x : Nat},x < 4294967296 → crcI j x < 4294967296
 | 0,_,h=>h
 | j + 1,x,h=>by show crcI j (crcS x) < _; exact crcI_lt j (crcS_lt h)
def crcTbl : Nat:=739192992287711479272199505450802174180944935565270117958735211195864883404034321072575759094604862722103638970562105654534965976895685875045062592379112792078985738769595739548904202597956689934399229134939183684703714920378025961387270778473281346239181994539903784708069763525514523240966634758967547723819948093640238732618841930738396489733218495472825776362786651876001733504161834172818020394346043168775838788836904094212573134772649703407841545716218812283123984658267516726659948613643534969466376019494666614718815429190684246327365394372519258139400530706807260825564948901732507176286259752944669944548605679086391305931301222988237278526118373278492307487107474296386730408839343753629123128283572704772544098648517013212824233746728729854273945055038163572363387039908578405517982904131040319505009390255243990278860523606265815895619710957563380635837315129012976704357344131429050367435482781212454439427280336740616644805562249867251859340971513883299426874200217165290071196282711253218164865174241416073419876796213293517950780480733835793334181716730049909888366296838117288969681076010175182486226749959458237712061794030512295298309798453151350168298336411933176330063767835252143862258384197256040876755067274410026075604127347481305827849130625987059819492849891529288490451730106428376839488665315100810248841715739596040091270955624355315201462555945279029196416991040143682248153287045556144390819759753283690710943841433520922330785319143598322120010359670046292912296136999474302691355293324886616216537430761212949134977443278613456733727644009057088654822989287437792990360527449046917776586498554113667460252688333953726837853077886002223252717428049737186417130969568838070377296274375688487884511950345697105344492065413654582468965021167618282726469469929715764674333614324035309623813703284835732759643444816186743644084768553800456975483023122915759126937036001171360984116527371042249105866775992680472790331893395027602898497596949565462107432141452181910127216554936352241472142685417685618824675396402282974391037184848625305334079832924861339728594832024687877422901193159812755254516361032103358958860399075665489958680801135040793967932263797765198140728704255468134266160630916650637156666977854355604551105352627939572551570066195951258251545213658746024110892771407706843609824354401912642345941057507434795836161327506684973593222243082074173577446865175872619707633030268690896528048779238513612740446475572226293760
abbrev crcT (y : Nat) : Nat:=Nat.xor (Nat.shiftRight y 8) (Nat.land (Nat.shiftRight crcTbl (Nat.mul 32 (Nat.land y 255))) 4294967295)
theorem tbl_all : allN (fun b=>Nat.beq (crcI 8 b) (Nat.land (Nat.shiftRight crcTbl (Nat.mul 32 b)) 4294967295)) 256 = true:=by kernel_rfl
theorem crcT_eq (y : Nat) : crcT y = crcI 8 y:=by
 have h255 : Nat.land y 255 = y % 2 ^ 8:=Nat.and_two_pow_sub_one_eq_mod y 8
 have hb : y % 2 ^ 8 < 256:=Nat.mod_lt _ (by decide)
 have key : crcI 8 (y % 2 ^ 8) = Nat.land (Nat.shiftRight crcTbl (Nat.mul 32 (y % 2 ^ 8))) 4294967295:=Nat.eq_of_beq_eq_true (allN_at tbl_all _ hb)
 have e : crcI 8 y = crcI 8 (2 ^ 8 * (y / 2 ^ 8)) ^^^ crcI 8 (y % 2 ^ 8):=by rw [← crcI_xor,← split_256]
 rw [e,crcI_pow,key]
 show Nat.xor (Nat.shiftRight y 8) (Nat.land (Nat.shiftRight crcTbl (Nat.mul 32 (Nat.land y 255))) 4294967295) = _
 rw [h255]
 show (y >>> 8) ^^^ _ = _
 rw [Nat.shiftRight_eq_div_pow]
theorem lss_f {a b : Nat} {κ : V → R} (h : b ≤ a) (ha : a ≤ 4611686018427387904) : b_lss (.int .i64 a) (.int .i64 b) κ = κ (.bool false):=by
 have e0 : b_lss (.int .i64 a) (.int .i64 b) κ = forceB (br (Nat.ble 9223372036854775808 a) (br (Nat.ble 9223372036854775808 b) (Nat.ble (Nat.succ a) b) true) (br (Nat.ble 9223372036854775808 b) false (Nat.ble (Nat.succ a) b))) fun r=>κ (.bool r):=rfl
 have h1 : Nat.ble 9223372036854775808 a = false:=Bool.eq_false_iff.2 fun h=>by have:=Nat.le_of_ble_eq_true h; omega
 have h2 : Nat.ble 9223372036854775808 b = false:=Bool.eq_false_iff.2 fun h=>by have:=Nat.le_of_ble_eq_true h; omega
 have h3 : Nat.ble (Nat.succ a) b = false:=Bool.eq_false_iff.2 fun h=>by have:=Nat.le_of_ble_eq_true h; omega
 rw [e0,forceB_eq,h1,h2,h3]; rfl
theorem ixS_at {p : K4} {off len cap esz i : Nat} {ex : Bool} {κ : V → R} (h : i < len) (hi : i < 9223372036854775808) : v_ixS esz (.sl p off len cap ex esz) (.int .i64 i) κ = κ (.ptr p (off + i * esz)):=by
 have e0 : v_ixS esz (.sl p off len cap ex esz) (.int .i64 i) κ = br (Nat.ble (Nat.succ i) 9223372036854775808) (br (Nat.beq esz esz) (br (Nat.ble (Nat.succ i) len) (forceN (Nat.add off (Nat.mul i esz)) fun o=>κ (.ptr p o)) (.fail "index")) (.fail "element")) (.fail "negative index"):=rfl
 rw [e0,show Nat.ble (Nat.succ i) 9223372036854775808 = true from Nat.ble_eq_true_of_le hi,show Nat.ble (Nat.succ i) len = true from Nat.ble_eq_true_of_le h,show Nat.beq esz esz = true from Nat.beq_refl _]
 show forceN (Nat.add off (Nat.mul i esz)) (fun o=>κ (.ptr p o)) = _
 rw [forceN_eq]; rfl
theorem ldb_at {p : K4} {off m c : Nat} {h : Heap} {sup : Bool} {prev : Option K4} {κ : V → R} (hp : hget p h = some (.c (.b m c) sup prev)) (hv : off < m) : v_ld (.ptr p off) h κ = κ (.int .u8 (lo (sh c off) 1)):=by
 show obR p h (fun cs _ _=>getC cs off κ) = _
 rw [obR_eq]
 have e : (obK p h fun cs _ _=>getC cs off κ) = @Option.rec Ob (fun _=>R) (.fail "no object") (fun o=>@Ob.rec (fun _=>R) (fun cs _ _=>getC cs off κ) (fF3 "cells expected") (fF4 "cells expected") (.fail "cells expected") (fF2 "cells expected") o) (hget p h):=hgetK_eq _ _ _
 rw [e,hp]
 show br (Nat.ble (Nat.succ off) m) (forceN (lo (sh c off) 1) fun r=>κ (.int .u8 r)) (.fail "byte") = _
 rw [show Nat.ble (Nat.succ off) m = true from Nat.ble_eq_true_of_le hv]
 show forceN (lo (sh c off) 1) (fun r=>κ (V.int .u8 r)) = _
 rw [forceN_eq]
theorem lo_lt (c : Nat) : lo c 1 < 256:=by rw [lo_eq]; exact Nat.mod_lt _ (by decide)
theorem sh_succ (c a : Nat) : sh (sh c a) 1 = sh c (a + 1):=by
 rw [sh_eq,sh_eq,sh_eq,Nat.div_div_eq_div_mul,← Nat.pow_add]
def slE (v : V) (κ0 : R) (κ : K4 → Nat → Nat → Nat → R) : R :=
 @V.rec (fun _=>R) (fun _=>Unit) (fun _ _=>κ0) (fun _=>κ0) (fun _ _=>κ0) (fun p off len _ _ esz=>κ p off len esz) (fun _ _=>κ0) (fun _ _=>κ0) (fun _=>κ0) (fun _=>κ0) (fun _ _ _=>κ0) (fun _ _=>κ0) (fun _=>κ0) () (fun _ _ _ _=>()) v
theorem slE_ind {G : R → Prop} {v : V} {κ0 : R} {κ : K4 → Nat → Nat → Nat → R} (g0 : G κ0) (g1 : ∀ p off len cap ex esz,v = .sl p off len cap ex esz → G (κ p off len esz)) : G (slE v κ0 κ):=by
 cases v with
 | sl p off len cap ex esz=>exact g1 p off len cap ex esz rfl
 | _=>exact g0
def bytE (o : OOb) (κ0 : R) (κ : Nat → Nat → R) : R :=
 @Option.rec Ob (fun _=>R) κ0 (fun o=>@Ob.rec (fun _=>R) (fun cs _ _=>@Cs.rec (fun _=>R) (fun _=>κ0) κ cs) (fun _ _ _=>κ0) (fun _ _ _ _=>κ0) κ0 (fun _ _=>κ0) o) o
theorem bytE_ind {G : R → Prop} {o : OOb} {κ0 : R} {κ : Nat → Nat → R} (g0 : G κ0) (g1 : ∀ n c sup prev,o = some (.c (.b n c) sup prev) → G (κ n c)) : G (bytE o κ0 κ):=by
 cases o with
 | none=>exact g0
 | some o=>cases o with
  | c cs sup prev=>cases cs with
   | l xs=>exact g0
   | b n c=>exact g1 n c sup prev rfl
  | _=>exact g0
def u64E (v : V) (κ0 : R) (κ : Nat → R) : R :=
 @V.rec (fun _=>R) (fun _=>Unit) (fun k r=>br (kbeq k .u64) (κ r) κ0) (fun _=>κ0) (fun _ _=>κ0) (fun _ _ _ _ _ _=>κ0) (fun _ _=>κ0) (fun _ _=>κ0) (fun _=>κ0) (fun _=>κ0) (fun _ _ _=>κ0) (fun _ _=>κ0) (fun _=>κ0) () (fun _ _ _ _=>()) v
theorem u64E_ind {G : R → Prop} {v : V} {κ0 : R} {κ : Nat → R} (g0 : G κ0) (g1 : ∀ r,v = .int .u64 r → G (κ r)) : G (u64E v κ0 κ):=by
 cases v with
 | int k r =>
  show G (br (kbeq k .u64) (κ r) κ0)
  cases hb : kbeq k .u64 with
  | false=>exact g0
  | true=>exact g1 r (by rw [kbeq_iff.1 hb])
 | _=>exact g0
def crcOB : S → Heap → K4 → R:=fun t h n=>g6 t fun z5=>g5 t fun z6=>b_lss z5 z6 fun z7=>vif z7 (blockX 1 (g4 t fun z8=>v_ixS 1 z8 z5 fun z9=>v_ld z9 h fun za=>g3 t fun zb=>v_cvi .u32 za fun zc=>b_xor zb zc fun zd=>blockX 2 (w3 t zd fun t=>w7 t (.int .i64 0) fun t=>loopX crcB t h n) fun t h n=>.ok .nrm t h n) fun t h n=>g6 t fun zo=>b_add zo (.int .i64 1) fun zp=>w6 t zp fun t=>.ok .nrm t h n)<|.ok (.exit 0) t h n
def crcQ (j : Nat) : Nat → Nat → Nat:=@Nat.rec (fun _=>Nat → Nat → Nat) (fun _ x=>x) (fun _ ih d x=>ih (sh d 1) (crcT (Nat.xor x (lo d 1)))) j
def crcR (j : Nat) : Nat → Nat → (Nat → R) → R:=@Nat.rec (fun _=>Nat → Nat → (Nat → R) → R) (fun _ x κ=>κ x) (fun _ ih d x κ=>forceN (Nat.xor x (lo d 1)) fun y=>forceN (crcT y) fun x=>forceN (sh d 1) fun d=>ih d x κ) j
theorem crcR_eq : ∀ (j d x : Nat) (κ : Nat → R),crcR j d x κ = κ (crcQ j d x)
 | 0,_,_,_=>rfl
 | j + 1,d,x,κ=>by
  show forceN (Nat.xor x (lo d 1)) (fun y=>forceN (crcT y) fun x=>forceN (sh d 1) fun d=>crcR j d x κ) = κ (crcQ j (sh d 1) (crcT (Nat.xor x (lo d 1))))
  rw [forceN_eq,forceN_eq,forceN_eq,crcR_eq]
theorem lo_lo (d j : Nat) : lo (lo d (j + 1)) 1 = lo d 1:=by
 rw [lo_eq,lo_eq,lo_eq,Nat.pow_succ,Nat.mod_mul_left_mod]
theorem sh_lo (d j : Nat) : sh (lo d (j + 1)) 1 = lo (sh d 1) j:=by
 rw [lo_eq,lo_eq,sh_eq,sh_eq,Nat.pow_succ,Nat.pow_one,Nat.mul_comm,Nat.mod_mul_right_div_self]
theorem crcQ_lo : ∀ (j d x : Nat),crcQ j (lo d j) x = crcQ j d x
 | 0,_,_=>rfl
 | j + 1,d,x=>by
  show crcQ j (sh (lo d (j + 1)) 1) (crcT (Nat.xor x (lo (lo d (j + 1)) 1))) = crcQ j (sh d 1) (crcT (Nat.xor x (lo d 1)))
  rw [lo_lo,sh_lo,crcQ_lo]
def crcOJ : Leap:=fun t h κ κ0=>g6 t fun i=>g5 t fun m=>g4 t fun s=>g3 t fun x=>i64E i κ0 fun i0=>i64E m κ0 fun m0=>slE s κ0 fun p off len esz=>u32E x κ0 fun x0=>hgetR p h fun o=>bytE o κ0 fun nb c =>
 br (Nat.ble (Nat.succ i0) m0) (br (Nat.ble m0 len) (br (Nat.ble (Nat.add off len) nb) (br (Nat.beq esz 1) (br (Nat.ble (Nat.succ x0) 4294967296) (br (Nat.ble m0 4611686018427387904)
  (forceN (Nat.sub m0 i0) fun j=>forceN (lo (sh c (Nat.add off i0)) j) fun d=>crcR j d x0 fun x=>w3 t (.int .u32 x) fun t=>w6 t (.int .i64 m0) fun t=>w7 t (.int .i64 8) fun t=>κ j t) κ0) κ0) κ0) κ0) κ0) κ0
theorem itK_succ (body : S → Heap → K4 → R) (k : Nat) (t : S) (h : Heap) (n : K4) : itK body (k + 1) t h n = onX (body t h n) (itK body k):=itK_round body (k + 1) t h n
theorem blockX_exit {id : Nat} {t : S} {h : Heap} {n : K4} {κ : S → Heap → K4 → R} : blockX id (.ok (.exit id) t h n) κ = κ t h n:=by
 show br (Nat.beq id id) (κ t h n) (.ok (.exit id) t h n) = κ t h n
 rw [Nat.beq_refl]; rfl
theorem crc_inner {d0 d1 d2 d4 d5 d6 : V} {c2 c3 c4 c5 c6 c7 : SQ} {h : Heap} {n : K4} {x : Nat} (hx : x < 4294967296) :
  loopX crcB (.mk (.mk d0 d1 d2 (.int .u32 x)) (.mk d4 d5 d6 (.int .i64 0)) c2 c3 c4 c5 c6 c7) h n = .ok (.exit 2) (.mk (.mk d0 d1 d2 (.int .u32 (crcI 8 x))) (.mk d4 d5 d6 (.int .i64 8)) c2 c3 c4 c5 c6 c7) h n:=by
 show itK crcB 1000000000 _ _ _ = _
 rw [show (1000000000 : Nat) = 8 + (999999991 + 1) from rfl,crc_rounds 8 0 x (by omega) hx,itK_succ]
 have e : crcB (.mk (.mk d0 d1 d2 (.int .u32 (crcI 8 x))) (.mk d4 d5 d6 (.int .i64 (0 + 8))) c2 c3 c4 c5 c6 c7) h n = .ok (.exit 2) (.mk (.mk d0 d1 d2 (.int .u32 (crcI 8 x))) (.mk d4 d5 d6 (.int .i64 (0 + 8))) c2 c3 c4 c5 c6 c7) h n:=by
  unfold crcB
  show b_lss (.int .i64 (0 + 8)) (.int .i64 8) _ = _
  rw [lss_f (by omega) (by omega)]; rfl
 rw [e]; rfl
theorem cvi_u8 {k : IntKind} {r : Nat} {κ : V → R} (h : r < 256) (hk : 256 ≤ Mk k) : v_cvi k (.int .u8 r) κ = κ (.int k r):=by
 have e0 : v_cvi k (.int .u8 r) κ = br (Nat.ble (Nat.succ r) 256) (forceN (Nat.mod r (Mk k)) fun r=>κ (.int k r)) (br (Nat.ble (Mk k) 256) (forceN (Nat.mod r (Mk k)) fun r=>κ (.int k r)) (forceN (Nat.sub (Mk k) (Nat.sub 256 r)) fun r=>κ (.int k r))):=rfl
 rw [e0,show Nat.ble (Nat.succ r) 256 = true from Nat.ble_eq_true_of_le h]
 show forceN (Nat.mod r (Mk k)) (fun r=>κ (V.int k r)) = _
 rw [forceN_eq,show Nat.mod r (Mk k) = r from Nat.mod_eq_of_lt (by omega)]
theorem crcO_round {d0 d1 d2 d7 : V} {c2 c3 c4 c5 c6 c7 : SQ} {h : Heap} {n p : K4} {off len cap m i x nb c : Nat} {ex sup : Bool} {prev : Option K4}
  (hp : hget p h = some (.c (.b nb c) sup prev)) (hi : i < m) (hm : m ≤ len) (hl : off + len ≤ nb) (hb : m ≤ 4611686018427387904) (hx : x < 4294967296) :
  crcOB (.mk (.mk d0 d1 d2 (.int .u32 x)) (.mk (.sl p off len cap ex 1) (.int .i64 m) (.int .i64 i) d7) c2 c3 c4 c5 c6 c7) h n
   = .ok .nrm (.mk (.mk d0 d1 d2 (.int .u32 (crcT (Nat.xor x (lo (sh c (off + i)) 1))))) (.mk (.sl p off len cap ex 1) (.int .i64 m) (.int .i64 (i + 1)) (.int .i64 8)) c2 c3 c4 c5 c6 c7) h n:=by
 unfold crcOB
 show b_lss (.int .i64 i) (.int .i64 m) _ = _
 rw [lss_t hi hb]
 show blockX 1 (v_ixS 1 (.sl p off len cap ex 1) (.int .i64 i) _) _ = _
 rw [ixS_at (by omega) (by omega),ldb_at hp (by omega)]
 show blockX 1 (v_cvi .u32 (.int .u8 (lo (sh c (off + i * 1)) 1)) _) _ = _
 rw [cvi_u8 (lo_lt _) (by decide),Nat.mul_one]
 have e3 : ∀ (a b : Nat) (κ : V → R),b_xor (.int .u32 a) (.int .u32 b) κ = κ (.int .u32 (Nat.xor a b)):=fun a b κ=>by
  have e0 : b_xor (.int .u32 a) (.int .u32 b) κ = forceN (Nat.xor a b) fun r=>κ (.int .u32 r):=rfl
  rw [e0,forceN_eq]
 rw [e3]
 have hx2 : Nat.xor x (lo (sh c (off + i)) 1) < 4294967296:=Nat.xor_lt_two_pow (n:=32) hx (Nat.lt_trans (lo_lt _) (by decide))
 rw [crcT_eq]
 generalize Nat.xor x (lo (sh c (off + i)) 1) = y at hx2
 show blockX 1 (blockX 2 (loopX crcB (.mk (.mk d0 d1 d2 (.int .u32 y)) (.mk (.sl p off len cap ex 1) (.int .i64 m) (.int .i64 i) (.int .i64 0)) c2 c3 c4 c5 c6 c7) h n) _) _ = _
 rw [crc_inner hx2,blockX_exit,blockX_nrm]
 show b_add (.int .i64 i) (.int .i64 1) _ = _
 rw [add_64 (by omega)]
theorem crcO_rounds {d0 d1 d2 : V} {c2 c3 c4 c5 c6 c7 : SQ} {h : Heap} {n p : K4} {off len cap m nb c : Nat} {ex sup : Bool} {prev : Option K4}
  (hp : hget p h = some (.c (.b nb c) sup prev)) (hm : m ≤ len) (hl : off + len ≤ nb) (hb : m ≤ 4611686018427387904) :
  ∀ (j i x : Nat) (d7 : V),i + (j + 1) ≤ m → x < 4294967296 → ∀ K,itK crcOB (j + 1 + K) (.mk (.mk d0 d1 d2 (.int .u32 x)) (.mk (.sl p off len cap ex 1) (.int .i64 m) (.int .i64 i) d7) c2 c3 c4 c5 c6 c7) h n
   = itK crcOB K (.mk (.mk d0 d1 d2 (.int .u32 (crcQ (j + 1) (sh c (off + i)) x))) (.mk (.sl p off len cap ex 1) (.int .i64 m) (.int .i64 (i + (j + 1))) (.int .i64 8)) c2 c3 c4 c5 c6 c7) h n
 | 0,i,x,d7,hj,hx,K=>by
  rw [show 0 + 1 + K = K + 1 by omega,itK_round]
  show onX (crcOB _ h n) (itK crcOB K) = _
  rw [crcO_round hp (by omega) hm hl hb hx]; rfl
 | j + 1,i,x,d7,hj,hx,K=>by
  rw [show j + 1 + 1 + K = (j + 1 + K) + 1 by omega,itK_round]
  show onX (crcOB _ h n) (itK crcOB (j + 1 + K)) = _
  rw [crcO_round hp (by omega) hm hl hb hx]
  show itK crcOB (j + 1 + K) _ h n = _
  rw [crcO_rounds hp hm hl hb j (i + 1) _ _ (by omega) (by rw [crcT_eq]; exact crcI_lt 8 (Nat.xor_lt_two_pow (n:=32) hx (Nat.lt_trans (lo_lt _) (by decide)))) K]
  have e : crcQ (j + 1 + 1) (sh c (off + i)) x = crcQ (j + 1) (sh (sh c (off + i)) 1) (crcT (Nat.xor x (lo (sh c (off + i)) 1))):=rfl
  rw [e,sh_succ,show off + (i + 1) = off + i + 1 by omega,show i + 1 + (j + 1) = i + (j + 1 + 1) by omega]
theorem crcO_leap : LeapOK crcOB crcOJ:=by
 intro t h κ κ0
 cases t with
 | mk c0 c1 c2 c3 c4 c5 c6 c7 =>
  cases c0 with
  | mk d0 d1 d2 x =>
   cases c1 with
   | mk s m i d7 =>
    obtain ⟨T,hT⟩ : ∃ T : S,T = .mk (.mk d0 d1 d2 x) (.mk s m i d7) c2 c3 c4 c5 c6 c7:=⟨_,rfl⟩
    obtain ⟨G,hG⟩ : ∃ G : R → Prop,∀ r,G r ↔ (r = κ0 ∨ ∃ j t',r = κ j t' ∧ ∀ k n,itK crcOB (j + k) T h n = itK crcOB k t' h n):=⟨_,fun r=>Iff.rfl⟩
    have g0 : G κ0:=(hG _).2 (.inl rfl)
    rw [← hT]
    refine (hG _).1 ?_
    rw [hT]
    refine i64E_ind (G:=G) g0 fun i0 hi=>i64E_ind (G:=G) g0 fun m0 hm=>slE_ind (G:=G) g0 fun p off len cap ex esz hs=>u32E_ind (G:=G) g0 fun x0 hx=>hgetR_ind (G:=G) (bytE_ind (G:=G) g0 fun nb c sup prev hp=>?_)
    subst hi hm hs hx
    refine br_ind (G:=G) g0 fun b1=>br_ind (G:=G) g0 fun b2=>br_ind (G:=G) g0 fun b3=>br_ind (G:=G) g0 fun b4=>br_ind (G:=G) g0 fun b5=>br_ind (G:=G) g0 fun b6=>?_
    have b1:=Nat.le_of_ble_eq_true b1
    have b2:=Nat.le_of_ble_eq_true b2
    have b3 : off + len ≤ nb:=Nat.le_of_ble_eq_true b3
    have b4:=Nat.eq_of_beq_eq_true b4
    have b5:=Nat.le_of_ble_eq_true b5
    have b6:=Nat.le_of_ble_eq_true b6
    subst b4
    obtain ⟨j,hj⟩ : ∃ j,Nat.sub m0 i0 = j + 1:=⟨m0 - i0 - 1,by show m0 - i0 = _; omega⟩
    have hj' : m0 - i0 = j + 1:=hj
    rw [hj,forceN_eq,forceN_eq,crcR_eq,crcQ_lo]
    refine (hG _).2 (.inr ⟨j + 1,_,rfl,fun K n=>?_⟩)
    rw [hT,crcO_rounds hp b2 b3 b6 j i0 x0 d7 (by omega) b5 K,show i0 + (j + 1) = m0 by omega]; rfl
theorem crcO_eq : loopX crcOB = leapX crcOB crcOJ:=loop_leap crcO_leap
def getnB : S → Heap → K4 → R:=fun t h n=>g5 t fun z3=>g4 t fun z4=>b_lss z3 z4 fun z5=>vif z5 (blockX 1 (g3 t fun z6=>v_ixS 1 z6 z3 fun z7=>v_ld z7 h fun z8=>g2 t fun z9=>b_shl z9 (.int .u64 8) fun za=>v_cvi .u64 z8 fun zb=>b_or za zb fun zc=>w2 t zc fun t=>.ok .nrm t h n) fun t h n=>g5 t fun zd=>b_add zd (.int .i64 1) fun ze=>w5 t ze fun t=>.ok .nrm t h n)<|.ok (.exit 0) t h n
abbrev getnS (x b : Nat) : Nat:=Nat.lor (Nat.mod (Nat.shiftLeft x 8) 18446744073709551616) b
def getnQ (j : Nat) : Nat → Nat → Nat:=@Nat.rec (fun _=>Nat → Nat → Nat) (fun _ x=>x) (fun _ ih d x=>ih (sh d 1) (getnS x (lo d 1))) j
def getnR (j : Nat) : Nat → Nat → (Nat → R) → R:=@Nat.rec (fun _=>Nat → Nat → (Nat → R) → R) (fun _ x κ=>κ x) (fun _ ih d x κ=>forceN (getnS x (lo d 1)) fun x=>forceN (sh d 1) fun d=>ih d x κ) j
theorem getnR_eq : ∀ (j d x : Nat) (κ : Nat → R),getnR j d x κ = κ (getnQ j d x)
 | 0,_,_,_=>rfl
 | j + 1,d,x,κ=>by
  show forceN (getnS x (lo d 1)) (fun x=>forceN (sh d 1) fun d=>getnR j d x κ) = κ (getnQ j (sh d 1) (getnS x (lo d 1)))
  rw [forceN_eq,forceN_eq,getnR_eq]
theorem getnQ_lo : ∀ (j d x : Nat),getnQ j (lo d j) x = getnQ j d x
 | 0,_,_=>rfl
 | j + 1,d,x=>by
  show getnQ j (sh (lo d (j + 1)) 1) (getnS x (lo (lo d (j + 1)) 1)) = getnQ j (sh d 1) (getnS x (lo d 1))
  rw [lo_lo,sh_lo,getnQ_lo]
def getnJ : Leap:=fun t h κ κ0=>g5 t fun i=>g4 t fun m=>g3 t fun s=>g2 t fun x=>i64E i κ0 fun i0=>i64E m κ0 fun m0=>slE s κ0 fun p off len esz=>u64E x κ0 fun x0=>hgetR p h fun o=>bytE o κ0 fun nb c =>
 br (Nat.ble (Nat.succ i0) m0) (br (Nat.ble m0 len) (br (Nat.ble (Nat.add off len) nb) (br (Nat.beq esz 1) (br (Nat.ble m0 4611686018427387904)
  (forceN (Nat.sub m0 i0) fun j=>forceN (lo (sh c (Nat.add off i0)) j) fun d=>getnR j d x0 fun x=>w2 t (.int .u64 x) fun t=>w5 t (.int .i64 m0) fun t=>κ j t) κ0) κ0) κ0) κ0) κ0
theorem getn_round {d0 d1 d6 d7 : V} {c2 c3 c4 c5 c6 c7 : SQ} {h : Heap} {n p : K4} {off len cap m i x nb c : Nat} {ex sup : Bool} {prev : Option K4}
  (hp : hget p h = some (.c (.b nb c) sup prev)) (hi : i < m) (hm : m ≤ len) (hl : off + len ≤ nb) (hb : m ≤ 4611686018427387904) :
  getnB (.mk (.mk d0 d1 (.int .u64 x) (.sl p off len cap ex 1)) (.mk (.int .i64 m) (.int .i64 i) d6 d7) c2 c3 c4 c5 c6 c7) h n
   = .ok .nrm (.mk (.mk d0 d1 (.int .u64 (getnS x (lo (sh c (off + i)) 1))) (.sl p off len cap ex 1)) (.mk (.int .i64 m) (.int .i64 (i + 1)) d6 d7) c2 c3 c4 c5 c6 c7) h n:=by
 unfold getnB
 show b_lss (.int .i64 i) (.int .i64 m) _ = _
 rw [lss_t hi hb]
 show blockX 1 (v_ixS 1 (.sl p off len cap ex 1) (.int .i64 i) _) _ = _
 rw [ixS_at (by omega) (by omega),ldb_at hp (by omega),Nat.mul_one]
 have e1 : ∀ (κ : V → R),b_shl (.int .u64 x) (.int .u64 8) κ = κ (.int .u64 (Nat.mod (Nat.shiftLeft x 8) 18446744073709551616)):=fun κ=>by
  have e0 : b_shl (.int .u64 x) (.int .u64 8) κ = forceN (Nat.mod (Nat.shiftLeft x 8) 18446744073709551616) fun r=>κ (.int .u64 r):=rfl
  rw [e0,forceN_eq]
 have e2 : ∀ (a b : Nat) (κ : V → R),b_or (.int .u64 a) (.int .u64 b) κ = κ (.int .u64 (Nat.lor a b)):=fun a b κ=>by
  have e0 : b_or (.int .u64 a) (.int .u64 b) κ = forceN (Nat.lor a b) fun r=>κ (.int .u64 r):=rfl
  rw [e0,forceN_eq]
 show blockX 1 (b_shl (.int .u64 x) (.int .u64 8) _) _ = _
 rw [e1,cvi_u8 (lo_lt _) (by decide),e2,blockX_nrm]
 show b_add (.int .i64 i) (.int .i64 1) _ = _
 rw [add_64 (by omega)]
theorem getn_rounds {d0 d1 d6 d7 : V} {c2 c3 c4 c5 c6 c7 : SQ} {h : Heap} {n p : K4} {off len cap m nb c : Nat} {ex sup : Bool} {prev : Option K4}
  (hp : hget p h = some (.c (.b nb c) sup prev)) (hm : m ≤ len) (hl : off + len ≤ nb) (hb : m ≤ 4611686018427387904) :
  ∀ (j i x : Nat),i + j ≤ m → ∀ K,itK getnB (j + K) (.mk (.mk d0 d1 (.int .u64 x) (.sl p off len cap ex 1)) (.mk (.int .i64 m) (.int .i64 i) d6 d7) c2 c3 c4 c5 c6 c7) h n
   = itK getnB K (.mk (.mk d0 d1 (.int .u64 (getnQ j (sh c (off + i)) x)) (.sl p off len cap ex 1)) (.mk (.int .i64 m) (.int .i64 (i + j)) d6 d7) c2 c3 c4 c5 c6 c7) h n
 | 0,i,x,hj,K=>by rw [Nat.zero_add]; rfl
 | j + 1,i,x,hj,K=>by
  rw [show j + 1 + K = (j + K) + 1 by omega,itK_round]
  show onX (getnB _ h n) (itK getnB (j + K)) = _
  rw [getn_round hp (by omega) hm hl hb]
  show itK getnB (j + K) _ h n = _
  rw [getn_rounds hp hm hl hb j (i + 1) _ (by omega) K]
  have e : getnQ (j + 1) (sh c (off + i)) x = getnQ j (sh (sh c (off + i)) 1) (getnS x (lo (sh c (off + i)) 1)):=rfl
  rw [e,sh_succ,show off + (i + 1) = off + i + 1 by omega,show i + 1 + j = i + (j + 1) by omega]
theorem getn_leap : LeapOK getnB getnJ:=by
 intro t h κ κ0
 cases t with
 | mk c0 c1 c2 c3 c4 c5 c6 c7 =>
  cases c0 with
  | mk d0 d1 x s =>
   cases c1 with
   | mk m i d6 d7 =>
    obtain ⟨T,hT⟩ : ∃ T : S,T = .mk (.mk d0 d1 x s) (.mk m i d6 d7) c2 c3 c4 c5 c6 c7:=⟨_,rfl⟩
    obtain ⟨G,hG⟩ : ∃ G : R → Prop,∀ r,G r ↔ (r = κ0 ∨ ∃ j t',r = κ j t' ∧ ∀ k n,itK getnB (j + k) T h n = itK getnB k t' h n):=⟨_,fun r=>Iff.rfl⟩
    have g0 : G κ0:=(hG _).2 (.inl rfl)
    rw [← hT]
    refine (hG _).1 ?_
    rw [hT]
    refine i64E_ind (G:=G) g0 fun i0 hi=>i64E_ind (G:=G) g0 fun m0 hm=>slE_ind (G:=G) g0 fun p off len cap ex esz hs=>u64E_ind (G:=G) g0 fun x0 hx=>hgetR_ind (G:=G) (bytE_ind (G:=G) g0 fun nb c sup prev hp=>?_)
    subst hi hm hs hx
    refine br_ind (G:=G) g0 fun b1=>br_ind (G:=G) g0 fun b2=>br_ind (G:=G) g0 fun b3=>br_ind (G:=G) g0 fun b4=>br_ind (G:=G) g0 fun b6=>?_
    have b1:=Nat.le_of_ble_eq_true b1
    have b2:=Nat.le_of_ble_eq_true b2
    have b3 : off + len ≤ nb:=Nat.le_of_ble_eq_true b3
    have b4:=Nat.eq_of_beq_eq_true b4
    have b6:=Nat.le_of_ble_eq_true b6
    subst b4
    rw [forceN_eq,forceN_eq,getnR_eq,getnQ_lo]
    refine (hG _).2 (.inr ⟨Nat.sub m0 i0,_,rfl,fun K n=>?_⟩)
    rw [hT,getn_rounds hp b2 b3 b6 (Nat.sub m0 i0) i0 x0 (by show i0 + (m0 - i0) ≤ m0; omega) K,show i0 + Nat.sub m0 i0 = m0 by show i0 + (m0 - i0) = m0; omega]; rfl
theorem getn_eq : loopX getnB = leapX getnB getnJ:=loop_leap getn_leap
end Go.Ev

namespace Go.Ev
set_option linter.unusedVariables false
theorem runs_of_calls {P : Program} {f : FuncId} {fn : Func} {c : Code} {xs : Array Value} {w : World} {R : Value → World → Prop} (hf : P.funcs[f]? = some fn) (hb : fn.body = some c) (hn : (fn.name == "runtime.NumGoroutine") = false)
  (h : Calls P f xs w fun e w'=>∃ v,e = .returned v ∧ R v w') : Runs P f xs w R:=by
 intro o a K Q hK
 have hn' : fn.name ≠ "runtime.NumGoroutine":=by simpa using hn
 have e : (callFunc f xs).run P w = .ok (.enter f xs) w:=by simp [callFunc,hf,hn',hb]
 rw [e]
 show Calls P f xs w _
 refine h.mono fun e w' ⟨v,he,hv⟩=>?_
 subst he
 exact hK v w' hv
def cntK (r : Nat) (m : Nat) : Nat → Nat → (Nat → R) → R :=
 @Nat.rec (fun _=>Nat → Nat → (Nat → R) → R) (fun _ a κ=>κ a)
  (fun _ ih c a κ=>br (Nat.beq (lo c 1) r) (forceN (sh c 1) fun d=>forceN (Nat.succ a) fun a=>ih d a κ) (forceN (sh c 1) fun d=>ih d a κ)) m
theorem cntK_eq (b : UInt8) (l : List UInt8) : ∀ (a : Nat) (κ : Nat → R),cntK b.toNat l.length (encL l) a κ = κ (a + Lib.countByte l b):=by
 induction l with
 | nil=>intro a κ; show κ a = κ (a + Lib.countByte [] b); simp [Lib.countByte]
 | cons x l ih =>
  intro a κ
  have hx:=x.toNat_lt
  have e0 : lo (encL (x :: l)) 1 = x.toNat:=by rw [lo_eq]; simp only [encL]; omega
  have e1 : sh (encL (x :: l)) 1 = encL l:=by rw [sh_eq]; simp only [encL]; omega
  have e2 : cntK b.toNat (x :: l).length (encL (x :: l)) a κ = br (Nat.beq x.toNat b.toNat) (cntK b.toNat l.length (encL l) (a + 1) κ) (cntK b.toNat l.length (encL l) a κ):=by
   have : cntK b.toNat (x :: l).length (encL (x :: l)) a κ = br (Nat.beq (lo (encL (x :: l)) 1) b.toNat) (forceN (sh (encL (x :: l)) 1) fun d=>forceN (Nat.succ a) fun a=>cntK b.toNat l.length d a κ) (forceN (sh (encL (x :: l)) 1) fun d=>cntK b.toNat l.length d a κ):=rfl
   rw [this,e0,e1,forceN_eq,forceN_eq,forceN_eq]
  rw [e2,ih,ih]
  have hc : Lib.countByte (x :: l) b = Lib.countByte l b + if x == b then 1 else 0:=by unfold Lib.countByte; rw [List.count_cons]
  rw [hc]
  by_cases hb : x = b
  ·subst hb
   rw [Nat.beq_refl,br_true]; simp; congr 1; omega
  ·have h1 : Nat.beq x.toNat b.toNat = false:=by
    cases h : Nat.beq x.toNat b.toNat with
    | false=>rfl
    | true=>exact absurd (UInt8.toNat_inj.1 (Nat.eq_of_beq_eq_true h)) hb
   have h2 : (x == b) = false:=by simpa using hb
   rw [h1,br_false,h2]; simp
def pCountString : Prim:=fun args h n =>
 unK args fun x l=>unK l fun y l=>nlK l (asStr x fun m c=>asI y fun k r=>br (kbeq k .u8) (br (Nat.ble m 1000000000) (cntK r m c 0 fun i=>.rv (.int .i64 i) h n) (.fail "a long string")) (.fail "kinds"))
theorem countString_ok {P : Program} {ρ : Env} {B : Nat} {f : FuncId} (b : Bare P f Extern.BytealgCount.count) : PrimOK P ρ B f pCountString:=by
 intro args h n v h1 n1 hx φ w xs g hr
 have hg : (pCountString args h n).good:=by rw [hx]; trivial
 unfold pCountString at hx hg
 obtain ⟨x,l,rfl,q1⟩:=unK_good hg
 rw [q1] at hx hg
 obtain ⟨y,l,rfl,q2⟩:=unK_good hg
 rw [q2] at hx hg
 obtain ⟨rfl,q3⟩:=nlK_good hg
 rw [q3] at hx
 obtain ⟨m,c,rfl,hx⟩:=asStr_rv hx
 obtain ⟨k,r,rfl,hx⟩:=asI_rv hx
 obtain ⟨hk,hx⟩:=br_rv hx
 have:=kbeq_iff.1 hk
 subst this
 obtain ⟨hm,hx⟩:=br_rv hx
 have hm:=ble_iff.1 hm
 obtain ⟨x1,ys,hxs,hr1,hr⟩:=rels_cons.1 hr
 obtain ⟨x2,ys,rfl,hr2,hr⟩:=rels_cons.1 hr
 obtain rfl:=rels_nil.1 hr
 obtain ⟨s,rfl,hsz,hc⟩:=(by simpa only [rel] using hr1 : ∃ s : ByteArray,x1 = .string s ∧ s.size = m ∧ encL s.data.toList = c)
 obtain ⟨hlt,rfl⟩:=(by simpa only [rel] using hr2 : r < Mk .u8 ∧ x2 = .int .u8 (dec .u8 r))
 have hlt : r < 256:=hlt
 have hdec : dec .u8 r = (r : Int):=dec_nonneg (by show r < 256; exact hlt)
 obtain rfl : xs = #[.string s,.int .u8 (dec .u8 r)]:=by cases xs; simp at hxs; simp [hxs]
 rw [hdec]
 refine b.runs (Lib.run_countString s r w) ⟨φ,?_⟩
 have hb : ((r : Int).toNat.toUInt8).toNat = r:=by
  simp only [Int.toNat_natCast]
  exact UInt8.toNat_ofNat_of_lt' (show r < 2 ^ 8 from hlt)
 have hl : s.data.toList.length = m:=by rw [← hsz]; rfl
 have key:=cntK_eq ((r : Int).toNat.toUInt8) s.data.toList 0 (fun i=>R.rv (.int .i64 i) h n)
 rw [hb,hl,hc] at key
 rw [key] at hx
 have hle : Lib.countByte s.data.toList ((r : Int).toNat.toUInt8) ≤ m:=by rw [← hl]; exact List.count_le_length
 cases hx
 refine ⟨Fr.refl h φ n w,g,?_⟩
 simp only [rel]
 rw [Nat.zero_add]
 have h9 : Lib.countByte s.data.toList ((r : Int).toNat.toUInt8) < 9223372036854775808:=by omega
 exact ⟨Nat.lt_trans h9 (by decide),congrArg (Value.int .i64) (dec_nonneg (k:=.i64) h9).symm⟩
section
variable {P : Program} {ρ : Env} {B : Nat}
end
abbrev iI (n : Nat) : V:=.int .i64 n
abbrev iW (n : Nat) : V:=.int .u32 n
abbrev iB (n : Nat) : V:=.int .u8 n
abbrev iL (n : Nat) : V:=.int .u64 n
abbrev nR (t : S) (h : Heap) (n : K4) : R:=.ok .nrm t h n
abbrev rT (t : S) (h : Heap) (n : K4) : R:=.ok .ret t h n
def o8 (i : Nat) : O8:=@Nat.rec (fun _=>O8) .d0 (fun i _=>@Nat.rec (fun _=>O8) .d1 (fun i _=>@Nat.rec (fun _=>O8) .d2 (fun i _=>@Nat.rec (fun _=>O8) .d3 (fun i _=>@Nat.rec (fun _=>O8) .d4 (fun i _=>@Nat.rec (fun _=>O8) .d5 (fun i _=>@Nat.rec (fun _=>O8) .d6 (fun _ _=>.d7) i) i) i) i) i) i) i
def o4 (i : Nat) : O4:=@Nat.rec (fun _=>O4) .d0 (fun i _=>@Nat.rec (fun _=>O4) .d1 (fun i _=>@Nat.rec (fun _=>O4) .d2 (fun _ _=>.d3) i) i) i
def mS (l : List Nat) : SM:=@List.rec Nat (fun _=>Nat → SM) (fun _=>[]) (fun p _ ih i=>(⟨D.ofN (Nat.div p 16),D.ofN (Nat.mod p 16)⟩,⟨o8 (Nat.div i 4),o4 (Nat.mod i 4)⟩) :: ih (Nat.succ i)) l 0
theorem any_no {α : Type} {p : α → Bool} {l : List α} (k : Nat) (h1 : ((l.take k).all fun x=>!p x) = true) (h2 : ((l.drop k).all fun x=>!p x) = true) : (l.all fun x=>!p x) = true:=by
 rw [← List.take_append_drop k l,List.all_append,h1,h2]; rfl
theorem goes_no {P : Program} (h : (P.funcs.toList.all fun fn=>!fn.goes) = true) (func : String) : P.goesAt .entering func = false:=by
 have key : ∀ g : Nat,(P.funcs[g]?).any Func.goes = false:=fun g=>by
  cases hx : P.funcs[g]? with
  | none=>rfl
  | some fn =>
   have hm : fn ∈ P.funcs.toList:=by
    rw [← Array.getElem?_toList] at hx
    exact List.mem_of_getElem? hx
   have:=List.all_eq_true.1 h fn hm
   simpa using this
 have hp : P.funcs.any Func.goes = false:=by
  rw [← Array.any_toList,Bool.eq_false_iff]
  intro hc
  obtain ⟨fn,hm,hg⟩:=List.any_eq_true.1 hc
  have:=List.all_eq_true.1 h fn hm
  rw [hg] at this; cases this
 have hgo : ∀ f,P.goes f = false:=fun f=>by
  unfold Program.goes
  rw [hp,Bool.and_false,Bool.or_false,Bool.eq_false_iff]
  intro hc
  simp only [key] at hc
  simp at hc
 unfold Program.goesAt Program.goesFrom
 cases P.funcNamed func with
 | none=>rfl
 | some f=>simp [hgo f]
end Go.Ev

namespace Go.Ev
set_option linter.unusedVariables false
abbrev GlF:=Nat → Option (Array Value × TypeId × (Nat × Nat))
def envGl (P : Program) (fs : List Nat) (gl : GlF) : Env:={ envAp P fs with gl:=gl }
theorem oneGl {P : Program} {fs : List Nat} {gl : GlF} : OneSym (envGl P fs gl):=fun _=>rfl
section
variable {P : Program} {ρ : Env} {B : Nat}
theorem ApEnt.gl {fs : List Nat} {gl : GlF} {f : FuncId} {e : Ent} (h : ApEnt P (envAp P fs) f e) : ApEnt P (envGl P fs gl) f e:=h
theorem TabOK.mkG {fs : List Nat} {gl : GlF} {T : FC} (h : ∀ f e,tabG (fnKey f) T = some e → EGood P (envGl P fs gl) B f e) (ha : ∀ f ∈ fs,∃ e,tabG (fnKey f) T = some e ∧ ApEnt P (envGl P fs gl) f e) : TabOK P (envGl P fs gl) B T:=by
 refine ⟨h,fun f A hA=>?_⟩
 have hA : @Bool.rec (fun _=>Option ApC) none (apOf P f) (fs.contains f) = some A:=hA
 cases hc : fs.contains f with
 | false=>rw [hc] at hA; cases hA
 | true=>exact ha f (List.contains_iff_mem.1 hc)
def TabG (P : Program) (gl : GlF) (name : String) (k : IntKind) (zs : List Int) : Prop:=∃ g e fr,P.globalNamed name = some g ∧ gl g = some ((zs.map fun z=>Value.int k z).toArray,e,fr)
theorem TabG.is {gl : GlF} {name : String} {k : IntKind} {zs : List Int} {h : Heap} {n : K4} {φ : Emb} {w : World} (t : TabG P gl name k zs) (hgl : ρ.gl = gl) (g : Gam ρ B h n φ w) : Lib.TabIs P w name k zs:=by
 obtain ⟨b,e,fr,h1,h2⟩:=t
 obtain ⟨_,h3⟩:=g.glob b _ e fr (by rw [hgl]; exact h2)
 unfold Lib.TabIs World.var?
 rw [h1,Option.bind_some,h3]
def glOf (w : World) (l : List Nat) : GlF:=fun b=>if b ∈ l then (match w.heap[b]? with | some (.cells c e fr)=>some (c,e,fr) | _=>none) else none
theorem glOf_at {P : Program} {fs : List Nat} {w : World} {l : List Nat} : GlAt (envGl P fs (glOf w l)) w:=fun b c e fr h=>by
 have h : glOf w l b = some (c,e,fr):=h
 unfold glOf at h
 split at h
 ·split at h
  ·rename_i c' e' fr' hw
   cases h
   refine ⟨?_,hw⟩
   rcases Nat.lt_or_ge b w.heap.size with hb | hb
   ·exact hb
   ·rw [Array.getElem?_eq_none hb] at hw; cases hw
  ·cases h
 ·cases h
theorem TabG.of {w : World} {l : List Nat} {g : Nat} {name : String} {k : IntKind} {zs : List Int} (hg : P.globalNamed name = some g) (hl : g ∈ l) (h : Lib.TabIs P w name k zs) : TabG P (glOf w l) name k zs:=by
 unfold Lib.TabIs World.var? at h
 rw [hg,Option.bind_some] at h
 split at h
 ·rename_i c e fr hw
  cases h
  refine ⟨g,e,fr,hg,?_⟩
  unfold glOf
  rw [if_pos hl,hw]
 ·cases h
def ndK (m : Nat) : Nat → Nat:=@Nat.rec (fun _=>Nat → Nat) (fun _=>1) (fun _ ih u=>br (Nat.ble (Nat.succ u) 10) 1 (Nat.succ (ih (Nat.div u 10)))) m
theorem ndK_eq : ∀ (m u : Nat),u < 10 ^ (m + 1) → ndK m u = Lib.nDigits u
 | 0,u,h=>by rw [Lib.nDigits_small (by simpa using h)]; rfl
 | m + 1,u,h=>by
  have e : ndK (m + 1) u = br (Nat.ble (Nat.succ u) 10) 1 (Nat.succ (ndK m (u / 10))):=rfl
  rw [e]
  by_cases hu : u < 10
  ·rw [ble_iff.2 (by omega),br_true,Lib.nDigits_small hu]
  ·rw [ble_false (by omega),br_false,Lib.nDigits_big hu,ndK_eq m (u / 10) (by rw [Nat.pow_succ] at h; omega)]
theorem nDigits_lt {u : Nat} (h : u < 18446744073709551616) : Lib.nDigits u ≤ 20:=by
 rw [← ndK_eq 19 u (by omega)]
 have : ∀ (m u : Nat),ndK m u ≤ m + 1:=by
  intro m
  induction m with
  | zero=>intro u; exact Nat.le_refl _
  | succ m ih =>
   intro u
   have e : ndK (m + 1) u = br (Nat.ble (Nat.succ u) 10) 1 (Nat.succ (ndK m (u / 10))):=rfl
   rw [e]
   cases Nat.ble (Nat.succ u) 10 with
   | true=>show 1 ≤ _; omega
   | false=>have:=ih (u / 10); show Nat.succ _ ≤ _; omega
 exact this 19 u
def pDigits : Prim:=fun args h n =>
 unK args fun x l=>nlK l (asI x fun k r=>br (kbeq k .u64) (br (Nat.ble 1 r) (forceN (ndK 19 r) fun i=>.rv (.int .i64 i) h n) (.fail "no number")) (.fail "kinds"))
def DigitsFn (P : Program) (f : FuncId) : Prop:=∀ (u : Nat),1 ≤ u → u < 18446744073709551616 → ∀ w : World,Lib.TabIs P w "internal/strconv.uint64pow10" .u64 Lib.pow10Tab → Calls P f #[.int .u64 u] w fun e w'=>e = .returned (.int .i64 (Lib.nDigits u)) ∧ w' = w
theorem digits_ok {f : FuncId} {fn : Func} {gl : GlF} (hf : P.funcs[f]? = some fn) (hb : fn.body.isSome = true) (hn : (fn.name == "runtime.NumGoroutine") = false) (hS : DigitsFn P f) (hgl : ρ.gl = gl) (ht : TabG P gl "internal/strconv.uint64pow10" .u64 Lib.pow10Tab) : PrimOK P ρ B f pDigits:=by
 intro args h n v h1 n1 hx φ w xs g hr
 have hg : (pDigits args h n).good:=by rw [hx]; trivial
 unfold pDigits at hx hg
 obtain ⟨x,l,rfl,q1⟩:=unK_good hg
 rw [q1] at hx hg
 obtain ⟨rfl,q2⟩:=nlK_good hg
 rw [q2] at hx
 obtain ⟨k,r,rfl,hx⟩:=asI_rv hx
 obtain ⟨hk,hx⟩:=br_rv hx
 obtain rfl:=kbeq_iff.1 hk
 obtain ⟨h1',hx⟩:=br_rv hx
 have h1':=ble_iff.1 h1'
 rw [forceN_eq] at hx
 cases hx
 obtain ⟨X,ys,hX,r0,hr⟩:=rels_cons.1 hr
 obtain rfl:=rels_nil.1 hr
 obtain ⟨hlt,rfl⟩:=rel_int r0
 have hlt : r < 18446744073709551616:=hlt
 have hxs : xs = #[.int .u64 (dec .u64 r)]:=by cases xs; simp at hX; rw [hX]
 subst hxs
 rw [show dec .u64 r = (r : Int) from dec_nonneg (by simp only [Hk]; exact hlt)]
 obtain ⟨c,hc⟩:=Option.isSome_iff_exists.1 hb
 refine runs_of_calls hf hc hn ((hS r h1' hlt w (ht.is hgl g)).mono fun e w' ⟨he,hw⟩=>⟨_,he,?_⟩)
 subst hw
 refine ⟨φ,Fr.refl h φ n _,g,?_⟩
 rw [ndK_eq 19 r (by omega)]
 have:=nDigits_lt hlt
 simp only [rel]
 generalize Lib.nDigits r = d at this
 exact ⟨by simp only [Mk]; omega,congrArg (Value.int .i64) (dec_nonneg (k:=.i64) (by simp only [Hk]; omega)).symm⟩
end
theorem tab_of_vars {P : Program} {w : World} : ∀ {l : List (String × DataW Unit)} {ps : List MemPlace},DataW.LaidVars P w l ps → ∀ {name : String} {d : DataW Unit},(name,d) ∈ l →
  ∃ g t cs fuel p,P.globalNamed name = some g ∧ (P.globals[g]?).map (·.type) = some t ∧ w.var? P name = some cs ∧ DataW.trod (fun _=>()) P w 0 (fun _=>true) false fuel t cs.toList = some (d,p)
 | [],_,_,_,_,hm=>by cases hm
 | (n,d) :: r,ps,h,name,d',hm=>by
  obtain ⟨g,t,cs,fuel,p,q,h1,h2,h3,h4,h5,_⟩:=h
  rcases List.mem_cons.1 hm with e | e
  ·cases e; exact ⟨g,t,cs,fuel,p,h1,h2,h3,h4⟩
  ·exact tab_of_vars h5 e
theorem tabIs_of_mem {P : Program} {W : World} {name : String} {k : IntKind} {zs : List Int} {l : List (String × DataW Unit)} {g : Nat} {t e : TypeId} {n : Nat}
  (hg : P.globalNamed name = some g) (hty : (P.globals[g]?).map (·.type) = some t) (ht : P.underlying t = some (.array n e)) (he : P.underlying e = some (.int k)) (hce : P.cellsOf e = 1) (hct : P.cellsOf t = n)
  (hm : (name,Lib.tabData k zs) ∈ l) (h : laidMet P l W) : Lib.TabIs P W name k zs:=by
 obtain ⟨ps,hv,_⟩:=h
 obtain ⟨g',t',cs,fuel,p,hg',ht',hvar,hd⟩:=tab_of_vars hv hm
 obtain rfl:=Option.some.inj (hg.symm.trans hg')
 obtain rfl:=Option.some.inj (hty.symm.trans ht')
 unfold Lib.TabIs
 rw [hvar,← Lib.cells_of_tab ht he hce hct hd]
end Go.Ev

namespace Go.Ev
set_option linter.unusedVariables false
open Go.RowKit
def eqcl (x y : V) : Bool :=
 @V.rec (fun _=>Bool) (fun _=>Unit) (fun k r=>@V.rec (fun _=>Bool) (fun _=>Unit) (fun j b=>br (kbeq k j) (Nat.beq r b) false) (fun _=>false) (fun _ _=>false) (fun _ _ _ _ _ _=>false) (fun _ _=>false) (fun _ _=>false) (fun _=>false) (fun _=>false) (fun _ _ _=>false) (fun _ _=>false) (fun _=>false) () (fun _ _ _ _=>()) y)
  (fun p=>@V.rec (fun _=>Bool) (fun _=>Unit) (fun _ _=>false) (fun q=>br p q (br q false true)) (fun _ _=>false) (fun _ _ _ _ _ _=>false) (fun _ _=>false) (fun _ _=>false) (fun _=>false) (fun _=>false) (fun _ _ _=>false) (fun _ _=>false) (fun _=>false) () (fun _ _ _ _=>()) y)
  (fun _ _=>false) (fun _ _ _ _ _ _=>false)
  (fun n c=>@V.rec (fun _=>Bool) (fun _=>Unit) (fun _ _=>false) (fun _=>false) (fun _ _=>false) (fun _ _ _ _ _ _=>false) (fun m d=>br (Nat.beq n m) (Nat.beq c d) false) (fun _ _=>false) (fun _=>false) (fun _=>false) (fun _ _ _=>false) (fun _ _=>false) (fun _=>false) () (fun _ _ _ _=>()) y)
  (fun _ _=>false) (fun _=>false) (fun _=>false) (fun _ _ _=>false) (fun _ _=>false) (fun _=>false) () (fun _ _ _ _=>()) x
def Plain (v : V) : Prop:=∀ (ρ : Env) (φ φ' : Emb) x,rel ρ φ v x → rel ρ φ' v x
theorem br_tt {c x : Bool} (h : br c x false = true) : c = true ∧ x = true:=by cases c; cases h; exact ⟨rfl,h⟩
theorem eqcl_ok {x y : V} (h : eqcl x y = true) : x = y ∧ Plain x:=by
 cases x with
 | int k r=>cases y with
  | int j b =>
   obtain ⟨h1,h2⟩:=br_tt (show br (kbeq k j) (Nat.beq r b) false = true from h)
   rw [kbeq_iff.1 h1,Nat.eq_of_beq_eq_true h2]
   exact ⟨rfl,fun ρ φ φ' x hx=>by simpa only [rel] using hx⟩
  | _=>cases h
 | bool p=>cases y with
  | bool q =>
   have h : br p q (br q false true) = true:=h
   have : p = q:=by cases p <;> cases q <;> first | rfl | cases h
   rw [this]
   exact ⟨rfl,fun ρ φ φ' x hx=>by simpa only [rel] using hx⟩
  | _=>cases h
 | str n c=>cases y with
  | str m d =>
   obtain ⟨h1,h2⟩:=br_tt (show br (Nat.beq n m) (Nat.beq c d) false = true from h)
   rw [Nat.eq_of_beq_eq_true h1,Nat.eq_of_beq_eq_true h2]
   exact ⟨rfl,fun ρ φ φ' x hx=>by simpa only [rel] using hx⟩
  | _=>cases h
 | _=>cases h
def eqcls (l : List V) : List V → Bool :=
 @List.rec V (fun _=>List V → Bool) (fun r=>@List.rec V (fun _=>Bool) true (fun _ _ _=>false) r) (fun x _ ih r=>@List.rec V (fun _=>Bool) false (fun y r _=>br (eqcl x y) (ih r) false) r) l
theorem eqcls_ok : ∀ {l r : List V},eqcls l r = true → l = r ∧ ∀ x ∈ l,Plain x
 | [],[],_=>⟨rfl,fun x hx=>by cases hx⟩
 | [],_ :: _,h=>by cases h
 | _ :: _,[],h=>by cases h
 | x :: l,y :: r,h=>by
  obtain ⟨h1,h2⟩:=br_tt (show br (eqcl x y) (eqcls l r) false = true from h)
  obtain ⟨rfl,p⟩:=eqcl_ok h1
  obtain ⟨rfl,q⟩:=eqcls_ok h2
  exact ⟨rfl,fun z hz=>by
   rcases List.mem_cons.1 hz with rfl | hz
   ·exact p
   ·exact q z hz⟩
def rIs (v : V) (r : R) : Bool:=@R.rec (fun _=>Bool) (fun _ _ _ _=>false) (fun u _ _=>eqcl u v) (fun _=>false) (fun _ _ _ _=>false) r
theorem rIs_ok {v : V} {r : R} (h : rIs v r = true) : (∃ h1 n1,r = .rv v h1 n1) ∧ Plain v:=by
 cases r with
 | rv u h1 n1=>obtain ⟨rfl,p⟩:=eqcl_ok (show eqcl u v = true from h); exact ⟨⟨h1,n1,rfl⟩,p⟩
 | _=>cases h
abbrev Memo:=List (List V × V)
def memoP (l : Memo) : Prim :=
 @List.rec (List V × V) (fun _=>Prim) (fF3 "a call that was not told") (fun e _ ih args h n=>@Prod.rec (List V) V (fun _=>R) (fun a v=>br (eqcls args a) (.rv v h n) (ih args h n)) e) l
theorem memoP_rv : ∀ {l : Memo} {args : List V} {h : Heap} {n : K4} {v : V} {h1 : Heap} {n1 : K4},memoP l args h n = .rv v h1 n1 → h1 = h ∧ n1 = n ∧ (args,v) ∈ l ∧ ∀ x ∈ args,Plain x
 | [],args,h,n,v,h1,n1,hx=>by cases hx
 | (a,u) :: l,args,h,n,v,h1,n1,hx=>by
  have e0 : memoP ((a,u) :: l) args h n = br (eqcls args a) (R.rv u h n) (memoP l args h n):=rfl
  rw [e0] at hx
  clear e0
  cases hb : eqcls args a with
  | true =>
   rw [hb,br_true] at hx
   obtain ⟨e1,p⟩:=eqcls_ok hb
   cases hx
   exact ⟨rfl,rfl,by rw [e1]; exact List.mem_cons_self ..,p⟩
  | false =>
   rw [hb] at hx
   obtain ⟨h1,h2,h3,h4⟩:=memoP_rv (show memoP l args h n = _ from hx)
   exact ⟨h1,h2,List.mem_cons_of_mem _ h3,h4⟩
def MemoOK (T : FC) (m : Nat) (f : FuncId) (l : Memo) : Prop:=∀ a v,(a,v) ∈ l → rIs v (call2 T m (fnKey f) a hempty n00) = true
theorem memo_nil {T : FC} {m : Nat} {f : FuncId} : MemoOK T m f []:=fun a v h=>by cases h
theorem memo_cons {T : FC} {m : Nat} {f : FuncId} {a : List V} {v : V} {l : Memo} (h : rIs v (call2 T m (fnKey f) a hempty n00) = true) (k : MemoOK T m f l) : MemoOK T m f ((a,v) :: l):=fun a' v' h'=>by
 rcases List.mem_cons.1 h' with e | e
 ·cases e; exact h
 ·exact k a' v' e
section
variable {P : Program} {ρ : Env} {B : Nat}
theorem Gam.below {h : Heap} {n : K4} {φ : Emb} {w w' : World} (g : Gam ρ B h n φ w) (b : Below w.heap.size w w') : Gam ρ B h n φ w' ∧ Fr h h φ φ n n w w':=by
 obtain ⟨b1,b2,b3,b4,b5⟩:=b
 refine ⟨⟨Nat.le_trans g.base b4,g.dom,fun p b s t hp=>⟨(g.blk p b s t hp).1,Nat.lt_of_lt_of_le (g.blk p b s t hp).2 b4⟩,fun p o b s t ho hp=>ObOK_heap (b5 b (g.blk p b s t hp).2) (g.obj p o b s t ho hp),g.sep,g.sup,
  fun b c e fr hb=>⟨(g.glob b c e fr hb).1,by rw [b5 b (Nat.lt_of_lt_of_le (g.glob b c e fr hb).1 g.base)]; exact (g.glob b c e fr hb).2⟩⟩,
  ⟨Emb.le_refl φ,fun _ _ h=>.inl h,Nat.le_refl _,b1,b2,b3,b4,fun b hb _=>b5 b hb,fun _ _ _ _ h=>.inl h,fun _ _ h=>h⟩⟩
theorem rels_plain {φ φ' : Emb} : ∀ {l : List V} {xs : List Value},(∀ x ∈ l,Plain x) → rels ρ φ l xs → rels ρ φ' l xs
 | [],xs,_,h=>by rw [rels_nil] at h ⊢; exact h
 | v :: l,xs,p,h=>by
  rw [rels_cons] at h ⊢
  obtain ⟨y,ys,e,h1,h2⟩:=h
  exact ⟨y,ys,e,p v (List.mem_cons_self ..) ρ φ φ' y h1,rels_plain (fun x hx=>p x (List.mem_cons_of_mem _ hx)) h2⟩
theorem memo_ok (hρ : OneSym ρ) (hm : P.follows .mixedOrders = true) {T : FC} (hT : ∀ B,TabOK P ρ B T) {m : Nat} {f : FuncId} {l : Memo} (hl : MemoOK T m f l) : PrimOK P ρ B f (memoP l):=by
 intro args h n v h1 n1 hx φ w xs g hr
 obtain ⟨rfl,rfl,hmem,hp⟩:=memoP_rv hx
 obtain ⟨⟨h2,n2,hc⟩,hv⟩:=rIs_ok (hl _ _ hmem)
 intro o a K Q hK
 refine call2_ok (B:=w.heap.size) hρ hm (hT _) m f args hempty n00 _ h2 n2 hc (fun _=>none) w xs (gam_start w n00 fun b c e fr hb=>⟨Nat.lt_of_lt_of_le (g.glob b c e fr hb).1 g.base,(g.glob b c e fr hb).2⟩) (rels_plain hp hr) o a K Q fun x w' ⟨φ',f1,_,hr1⟩=>hK x w' ?_
 obtain ⟨g2,f2⟩:=g.below (below_of_fr f1)
 exact ⟨φ,f2,g2,hv ρ φ' φ x hr1⟩
end
theorem wf_i64 {a : Int} (h : (Lit.int .i64 a).wf = true) : -9223372036854775808 ≤ a ∧ a < 9223372036854775808:=by
 simp [Lit.wf,IntKind.min,IntKind.max,IntKind.signed,IntKind.bits] at h
 omega
theorem rel_iv_hi {ρ : Env} {φ : Emb} {a : Int} {lo : Nat} (h : (lo : Int) ≤ a) (h2 : a < 9223372036854775808) : rel ρ φ (.oth (.iv .i64 lo 9223372036854775807)) (.int .i64 a):=by
 simp only [rel]
 refine ⟨a.toNat,by omega,by omega,by simp only [Mk]; omega,?_⟩
 rw [dec_nonneg (by simp only [Hk]; omega)]
 congr 1; omega
theorem rel_iv_neg {ρ : Env} {φ : Emb} {a : Int} (h : a < 0) (h2 : -9223372036854775808 ≤ a) : rel ρ φ (.oth (.iv .i64 9223372036854775808 18446744073709551615)) (.int .i64 a):=by
 simp only [rel]
 refine ⟨(a + 18446744073709551616).toNat,by omega,by omega,by simp only [Mk]; omega,?_⟩
 rw [dec_neg (by simp only [Hk]; omega)]
 congr 1; simp only [Mk]; omega
theorem rel_iv_any {ρ : Env} {φ : Emb} {a : Int} (h : -9223372036854775808 ≤ a) (h2 : a < 9223372036854775808) : rel ρ φ (.oth (.iv .i64 0 18446744073709551615)) (.int .i64 a):=by
 by_cases h0 : a < 0
 ·have:=rel_iv_neg (ρ:=ρ) (φ:=φ) h0 h
  simp only [rel] at this ⊢
  obtain ⟨r,h1,h2,h3,h4⟩:=this
  exact ⟨r,Nat.zero_le _,h2,h3,h4⟩
 ·have:=rel_iv_hi (ρ:=ρ) (φ:=φ) (lo:=0) (a:=a) (by omega) h2
  simp only [rel] at this ⊢
  obtain ⟨r,h1,h2,h3,h4⟩:=this
  exact ⟨r,Nat.zero_le _,by omega,h3,h4⟩
theorem rel_iv_mid {ρ : Env} {φ : Emb} {a : Int} {lo hi : Nat} (h : (lo : Int) ≤ a) (h2 : a ≤ (hi : Int)) (h3 : hi < 9223372036854775808) : rel ρ φ (.oth (.iv .i64 lo hi)) (.int .i64 a):=by
 simp only [rel]
 refine ⟨a.toNat,by omega,by omega,by simp only [Mk]; omega,?_⟩
 rw [dec_nonneg (by simp only [Hk]; omega)]
 congr 1; omega
end Go.Ev
