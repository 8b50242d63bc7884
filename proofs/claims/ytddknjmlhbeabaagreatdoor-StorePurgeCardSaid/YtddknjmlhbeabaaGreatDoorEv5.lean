/- AN EVALUATOR OF THE MODEL OF Go, PROVED SOUND, PART 5: what it says of a call holds in every world, on every tape. Conditions: none of its own; each theorem bears its premises. -/
import Derived.Test.YtddknjmlhbeabaaGreatDoorEv4
import Derived.Shelf.SlSortCmp.WholeK
noncomputable section
set_option linter.unusedSimpArgs false
set_option linter.unusedVariables false
namespace Go.Ev
set_option linter.unusedVariables false
set_option maxRecDepth 100000
abbrev valZ : List V:=[(iL 0),(iL 0),(iL 0),(iI 0),(iI 0),(.nil .sl),(iI 0),(.bool false)]
def delR (c : CF2) (z3 : V) (t : S) (h : Heap) (n : K4) : R :=
 entK' z3 h n fun z6 h n=>v_ext 0 z6 fun z7=>v_ext 1 z6 fun z8=>v_alc (.l [(iW 0),(.str 0 0)]) h n fun z9 h n=>v_alc (.l valZ) h n fun za h n=>v_st 2 z9 z7 h fun h=>v_st 8 za z8 h fun h=>g1 t fun zb=>v_ldn 2 z9 h fun zc=>v_ldn 8 za h fun zd=>dclK c zb [zc,zd] h n fun ze h n =>
  joinX (vif ze (g0 t fun zf=>v_ldn 2 z9 h fun zg=>v_del (.ks [.i,.s]) zf zg h fun h=>nR t h n) (nR t h n)) fun t h n=>nR t h n
def delB' (c : CF2) : S → Heap → K4 → R:=fun t h n=>g2 t fun z3=>nxtK z3 h n fun z4 h n=>v_ext 0 z4 fun z5=>vif z5 (blockX 1 (delR c z3 t h n) fun t h n=>nR t h n)<|.ok (.exit 0) t h n
def delE : Ent:=.code (fun l k=>unK l fun a0 l=>unK l fun a1 l=>nlK l<|k (.mk (.mk a0 a1 U U) Q0 Q0 Q0 Q0 Q0 Q0 Q0))
 (fun c t h n=>g0 t fun z1=>rngK z1 h n fun z2 h n=>blockX 0 (w2 t z2 fun t=>loopX (delB' c) t h n) fun t h n=>nR t h n) (fun t h n=>.rv (.tup []) h n)
def cloE : Ent:=.code (fun l k=>unK l fun a0 l=>unK l fun a1 l=>unK l fun a2 l=>nlK l<|k (.mk (.mk a0 a1 a2 U) Q0 Q0 Q0 Q0 Q0 Q0 Q0))
 (fun c t h n=>g0 t fun z1=>v_box z1 h n fun z2 h n=>g1 t fun z3=>v_box z3 h n fun z4 h n=>v_fad 0 z2 fun z5=>v_ld z5 h fun z6=>g2 t fun z7=>v_ld z7 h fun z8=>b_eql z6 z8 fun z9=>w3 t z9 fun t=>rT t h n) (fun t h n=>g3 t fun a0=>.rv a0 h n)
def dT (pm : K4) (g : Nat) (zb : K4) (zo : Nat) (it : K4) : S:=.mk (.mk (.map pm) (.fn g [.ptr zb zo]) (.ptr it 0) U) Q0 Q0 Q0 Q0 Q0 Q0 Q0
section
variable {h : Heap} {n n' p : K4}
theorem v_stN_at {xs l : List V} {m : Nat} {κ : Heap → R} (hp : hget p h = some (.c (.l xs) false none)) (hx : xs.length = m) (hl : l.length = m) : v_st m (.ptr p 0) (.agg l) h κ = κ (hputS p h (some (.c (.l l) false none))):=by
 show lenK l (fun k=>br (Nat.beq k m) (storeR h p 0 (.l l) κ) (.fail "a store of another size")) = _
 rw [lenK_eq,hl,Nat.beq_refl,br_true,storeR_eq]
 unfold storeK
 rw [obK_at hp,br_false,splC_all (by omega),killK_eq,hput_eq]; rfl
theorem v_ldnN_at {l : List V} {m : Nat} {sup : Bool} {prev : Option K4} {κ : V → R} (hp : hget p h = some (.c (.l l) sup prev)) (hl : l.length = m) : v_ldn m (.ptr p 0) h κ = κ (.agg l):=by
 show obR p h (fun cs _ _=>rangeC cs 0 m fun y=>listC y fun l=>κ (.agg l)) = _
 rw [obR_at hp,← hl,rangeC_at]; rfl
theorem v_box_at {l : List V} {κ : KV} (hn : ∀ k : K4 → R,n.nx k = k n') : v_box (.agg l) h n κ = κ (.ptr n 0) (hputS n h (some (.c (.l l) false none))) n':=by
 show newR h n (.c (.l l) false none) (fun h' n'=>κ (.ptr n 0) h' n') = _
 rw [newR_at hn]
end
def mtB (tn : Nat) (e : V × V) : Bool:=match e.1 with
 | .agg [.int .u32 t,.str _ _]=>Nat.beq t tn
 | _=>false
def keyOf3 (e : V × V) : Option (Nat × Nat × Nat):=match e.1 with
 | .agg [.int .u32 t,.str m c]=>some (t,m,c)
 | _=>none
theorem delK_at {t m c : Nat} {κ : List (V × V) → R} : ∀ {es : List (V × V)} {i : Nat} {x : V},(∀ e ∈ es,Shaped e) → es[i]? = some (.agg [.int .u32 t,.str m c],x) → (∀ j,j < i → ∀ e,es[j]? = some e → keyOf3 e ≠ some (t,m,c)) → delK (.ks [.i,.s]) (.agg [.int .u32 t,.str m c]) es κ = κ (es.eraseIdx i)
 | [],i,x,_,h,_=>by simp at h
 | (k,y) :: es,i,x,hS,h,hd=>by
  obtain ⟨t',m',c',_,hk⟩:=hS (k,y) (List.mem_cons_self ..)
  have hk : k = .agg [.int .u32 t',.str m' c']:=hk
  subst hk
  show eqK (.ks [.i,.s]) (.agg [.int .u32 t,.str m c]) (.agg [.int .u32 t',.str m' c']) (fun r=>br r (κ es) (delK (.ks [.i,.s]) (.agg [.int .u32 t,.str m c]) es fun l=>κ ((.agg [.int .u32 t',.str m' c'],y) :: l))) = _
  rw [eqK_key]
  cases i with
  | zero =>
   simp at h
   obtain ⟨⟨rfl,rfl,rfl⟩,rfl⟩:=h
   rw [decide_eq_true ⟨rfl,rfl,rfl⟩]; rfl
  | succ i =>
   have:=hd 0 (by omega) _ rfl
   have hne : ¬ (t = t' ∧ m = m' ∧ c = c'):=fun ⟨e1,e2,e3⟩=>this (by subst e1 e2 e3; rfl)
   rw [decide_eq_false hne]
   show delK (.ks [.i,.s]) (.agg [.int .u32 t,.str m c]) es (fun l=>κ ((.agg [.int .u32 t',.str m' c'],y) :: l)) = _
   rw [delK_at (i:=i) (x:=x) (fun e he=>hS e (List.mem_cons_of_mem _ he)) (by simpa using h) (fun j hj e he=>hd (j + 1) (by omega) e (by simpa using he))]
   rfl
theorem delB_at {t m c : Nat} {κ : List Nat → R} : ∀ {es : List (V × V)} {bs : List Nat} {i : Nat} {x : V},es.length = bs.length → (∀ e ∈ es,Shaped e) → es[i]? = some (.agg [.int .u32 t,.str m c],x) → (∀ j,j < i → ∀ e,es[j]? = some e → keyOf3 e ≠ some (t,m,c)) → delB (.ks [.i,.s]) (.agg [.int .u32 t,.str m c]) es bs κ = κ (bs.eraseIdx i)
 | [],bs,i,x,_,_,h,_=>by simp at h
 | (k,y) :: es,[],i,x,hl,_,_,_=>by simp at hl
 | (k,y) :: es,b :: bs,i,x,hl,hS,h,hd=>by
  obtain ⟨t',m',c',_,hk⟩:=hS (k,y) (List.mem_cons_self ..)
  have hk : k = .agg [.int .u32 t',.str m' c']:=hk
  subst hk
  show eqK (.ks [.i,.s]) (.agg [.int .u32 t,.str m c]) (.agg [.int .u32 t',.str m' c']) (fun r=>br r (κ bs) (delB (.ks [.i,.s]) (.agg [.int .u32 t,.str m c]) es bs fun l=>κ (b :: l))) = _
  rw [eqK_key]
  cases i with
  | zero =>
   simp at h
   obtain ⟨⟨rfl,rfl,rfl⟩,rfl⟩:=h
   rw [decide_eq_true ⟨rfl,rfl,rfl⟩]; rfl
  | succ i =>
   have:=hd 0 (by omega) _ rfl
   have hne : ¬ (t = t' ∧ m = m' ∧ c = c'):=fun ⟨e1,e2,e3⟩=>this (by subst e1 e2 e3; rfl)
   rw [decide_eq_false hne]
   show delB (.ks [.i,.s]) (.agg [.int .u32 t,.str m c]) es bs (fun l=>κ (b :: l)) = _
   rw [delB_at (i:=i) (x:=x) (by simpa using hl) (fun e he=>hS e (List.mem_cons_of_mem _ he)) (by simpa using h) (fun j hj e he=>hd (j + 1) (by omega) e (by simpa using he))]
   rfl
theorem v_del_at {t m c clk : Nat} {p : K4} {h : Heap} {κ : Heap → R} {es : List (V × V)} {bs : List Nat} {i : Nat} {x : V} (hp : hget p h = some (.m es bs clk)) (hl : es.length = bs.length) (hS : ∀ e ∈ es,Shaped e) (he : es[i]? = some (.agg [.int .u32 t,.str m c],x)) (hd : ∀ j,j < i → ∀ e,es[j]? = some e → keyOf3 e ≠ some (t,m,c)) :
  v_del (.ks [.i,.s]) (.map p) (.agg [.int .u32 t,.str m c]) h κ = κ (hputS p h (some (.m (es.eraseIdx i) (bs.eraseIdx i) clk))):=by
 show mopR p h (fun es bs cl k=>delK (.ks [.i,.s]) (.agg [.int .u32 t,.str m c]) es fun es2=>delB (.ks [.i,.s]) (.agg [.int .u32 t,.str m c]) es bs fun bs=>k es2 bs cl) κ = _
 rw [mopR_eq,← mpR_eq,mpR_at hp,delK_at hS he hd,delB_at hl hS he hd]
 show hput p h (some (.m (es.eraseIdx i) (bs.eraseIdx i) clk)) κ = _
 rw [hput_eq]
theorem vif_t {a b : R} : vif (.bool true) a b = a:=rfl
theorem clo_call {T : FC} {g : FuncId} {m' : Nat} (hg : tabG (fnKey g) T = some cloE) {h : Heap} {n n1 n2 zb : K4} {zo t tn m c : Nat} {l bx : List V} {sup : Bool} {prev : Option K4} (hx1 : ∀ k : K4 → R,n.nx k = k n1) (hx2 : ∀ k : K4 → R,n1.nx k = k n2) (hn1 : n1.toN = n.toN + 1) (hzb : hget zb h = some (.c (.l bx) sup prev)) (hzo : bx[zo]? = some (.int .u32 tn)) (hz : zb.toN < n.toN) :
  call2 T (m' + 1) (fnKey g) [.agg [.int .u32 t,.str m c],.agg l,.ptr zb zo] h n = .rv (.bool (Nat.beq t tn)) (hputS n1 (hputS n h (some (.c (.l [.int .u32 t,.str m c]) false none))) (some (.c (.l l) false none))) n2:=by
 rw [call2_at,hg]
 show retX (v_box (.agg [.int .u32 t,.str m c]) h n _) _ = _
 rw [v_box_at hx1]
 show retX (v_box (.agg l) _ n1 _) _ = _
 rw [v_box_at hx2]
 show retX (v_fad 0 (.ptr n 0) _) _ = _
 rw [v_fad_at]
 show retX (v_ld (.ptr n (0 + 0)) _ _) _ = _
 rw [ld_at (v:=.int .u32 t) (by rw [hget_hputS_ne _ _ (ne_of_lt (by omega : n.toN < n1.toN)).symm,hget_hputS_same]) rfl]
 show retX (v_ld (.ptr zb zo) _ _) _ = _
 rw [ld_at (v:=.int .u32 tn) (by rw [hget_hputS_ne _ _ (ne_of_lt (by omega : zb.toN < n1.toN)).symm,hget_hputS_ne _ _ (ne_of_lt hz).symm]; exact hzb) hzo,b_eql_int]
 rfl
def ValOK (e : V × V) : Prop:=∃ l,e.2 = .agg l ∧ l.length = 8
section
variable {hs h : Heap} {n0 n pm it zb : K4} {zo tn clk : Nat} {es : List (V × V)} {bs : List Nat} {bx : List V} {supb : Bool} {prevb : Option K4} {T : FC} {g : FuncId} {mm : Nat}
theorem delR_step {seen : List Nat} {e : V × V} {b i : Nat} (hg : tabG (fnKey g) T = some cloE) (hit : hget it h = some (.it pm clk (b :: seen) clk)) (hm : hget pm h = some (.m es bs clk)) (hzb : hget zb h = some (.c (.l bx) supb prevb)) (hzo : bx[zo]? = some (.int .u32 tn))
  (he : es[i]? = some e) (hb : bs[i]? = some b) (hlen : es.length = bs.length) (hnd : bs.Nodup) (hS : ∀ e ∈ es,Shaped e) (hV : ValOK e) (hd : ∀ j,j < i → ∀ e',es[j]? = some e' → keyOf3 e' ≠ keyOf3 e) (hpm : pm.toN < n0.toN) (hz : zb.toN < n0.toN) (hzm : zb ≠ pm) (hi0 : n0.toN ≤ it.toN) (hin : it.toN < n.toN) (hN : n.toN + 4 ≤ 65535) :
  ∃ h' n',delR (call2 T (mm + 1)) (.ptr it 0) (dT pm g zb zo it) h n = nR (dT pm g zb zo it) h' n' ∧ n.toN ≤ n'.toN ∧ n'.toN ≤ n.toN + 4 ∧ (∀ p,(p.toN < n0.toN ∧ p ≠ pm) ∨ p = it → hget p h' = hget p h) ∧
   hget pm h' = some (if mtB tn e then .m (es.eraseIdx i) (bs.eraseIdx i) clk else .m es bs clk):=by
 obtain ⟨n1,hn1,hx1⟩:=K4.nx_u n (by omega)
 obtain ⟨n2,hn2,hx2⟩:=K4.nx_u n1 (by omega)
 obtain ⟨n3,hn3,hx3⟩:=K4.nx_u n2 (by omega)
 obtain ⟨n4,hn4,hx4⟩:=K4.nx_u n3 (by omega)
 obtain ⟨t,m,c,hc,hk⟩:=hS e (List.mem_of_getElem? he)
 obtain ⟨k,x⟩:=e
 have hk : k = .agg [.int .u32 t,.str m c]:=hk
 subst hk
 obtain ⟨l8,hl8,hl8'⟩:=hV
 have hl8 : x = .agg l8:=hl8
 subst hl8
 have hfirst : ∀ j,j < i → bs[j]? ≠ some b:=fun j hj e=>by
  obtain ⟨l1,e1⟩:=(List.getElem?_eq_some_iff.1 e)
  obtain ⟨l2,e2⟩:=(List.getElem?_eq_some_iff.1 hb)
  exact List.pairwise_iff_getElem.1 hnd j i l1 l2 hj (e1.trans e2.symm)
 have ent : ∀ κ : KV,entK' (.ptr it 0) h n κ = κ (.tup [.agg [.int .u32 t,.str m c],.agg l8]) h n:=fun κ=>by
  show itR it h (.fail "entry") _ = _
  rw [itR_at hit]
  show mpR pm h _ = _
  rw [mpR_at hm]
  show br (Nat.beq clk clk) (findB b es bs fun k x=>κ (.tup [k,x]) h n) (.fail "an insertion") = _
  rw [Nat.beq_refl,br_true,findB_at he hb hfirst]
 obtain ⟨h1,eh1⟩ : ∃ h1,h1 = hputS n1 (hputS n (hputS n1 (hputS n h (some (.c (.l [iW 0,.str 0 0]) false none))) (some (.c (.l valZ) false none))) (some (.c (.l [.int .u32 t,.str m c]) false none))) (some (.c (.l l8) false none)):=⟨_,rfl⟩
 have nn1 : n ≠ n1:=ne_of_lt (by omega)
 have ga : hget n1 h1 = some (.c (.l l8) false none):=by rw [eh1,hget_hputS_same]
 have gk : hget n h1 = some (.c (.l [.int .u32 t,.str m c]) false none):=by rw [eh1,hget_hputS_ne _ _ nn1.symm,hget_hputS_same]
 have g1' : ∀ p,p.toN < n.toN → hget p h1 = hget p h:=fun p hp=>by
  rw [eh1,hget_hputS_ne _ _ (ne_of_lt (by omega : p.toN < n1.toN)).symm,hget_hputS_ne _ _ (ne_of_lt hp).symm,hget_hputS_ne _ _ (ne_of_lt (by omega : p.toN < n1.toN)).symm,hget_hputS_ne _ _ (ne_of_lt hp).symm]
 obtain ⟨h2,eh2⟩ : ∃ h2,h2 = hputS n3 (hputS n2 h1 (some (.c (.l [.int .u32 t,.str m c]) false none))) (some (.c (.l l8) false none)):=⟨_,rfl⟩
 have g2' : ∀ p,p.toN < n2.toN → hget p h2 = hget p h1:=fun p hp=>by
  rw [eh2,hget_hputS_ne _ _ (ne_of_lt (by omega : p.toN < n3.toN)).symm,hget_hputS_ne _ _ (ne_of_lt hp).symm]
 have hcall : call2 T (mm + 1) (fnKey g) [.agg [.int .u32 t,.str m c],.agg l8,.ptr zb zo] h1 n2 = .rv (.bool (Nat.beq t tn)) h2 n4:=by
  rw [clo_call hg hx3 hx4 hn3 (by rw [g1' zb (by omega)]; exact hzb) hzo (by omega),← eh2]
 have step1 : delR (call2 T (mm + 1)) (.ptr it 0) (dT pm g zb zo it) h n = joinX (vif (.bool (Nat.beq t tn)) (v_ldn 2 (.ptr n 0) h2 fun zg=>v_del (.ks [.i,.s]) (.map pm) zg h2 fun h=>nR (dT pm g zb zo it) h n4) (nR (dT pm g zb zo it) h2 n4)) fun t h n=>nR t h n:=by
  unfold delR
  rw [ent,v_ext0,v_ext1]
  rw [v_alc_at hx1]
  show v_alc (.l valZ) _ n1 _ = _
  rw [v_alc_at hx2]
  show v_st 2 (.ptr n 0) (.agg [.int .u32 t,.str m c]) _ _ = _
  rw [v_st2_at (x:=iW 0) (y:=.str 0 0) (by rw [hget_hputS_ne _ _ nn1.symm,hget_hputS_same])]
  show v_st 8 (.ptr n1 0) (.agg l8) _ _ = _
  rw [v_stN_at (m:=8) (xs:=valZ) (by rw [hget_hputS_ne _ _ nn1,hget_hputS_same]) rfl hl8',← eh1]
  show v_ldn 2 (.ptr n 0) h1 _ = _
  rw [v_ldn2_at gk]
  show v_ldn 8 (.ptr n1 0) h1 _ = _
  rw [v_ldnN_at ga hl8']
  show tcallK (call2 T (mm + 1) (fnKey g) [.agg [.int .u32 t,.str m c],.agg l8,.ptr zb zo] h1 n2) _ = _
  rw [hcall]
  rfl
 have hfr : ∀ p,(p.toN < n0.toN ∧ p ≠ pm) ∨ p = it → hget p h2 = hget p h:=fun p hp=>by
  have : p.toN < n.toN:=by rcases hp with hp | rfl <;> omega
  rw [g2' p (by omega),g1' p this]
 have hpm2 : hget pm h2 = some (.m es bs clk):=by rw [g2' pm (by omega),g1' pm (by omega)]; exact hm
 cases hb2 : Nat.beq t tn with
 | false =>
  refine ⟨h2,n4,by rw [step1,hb2]; rfl,by omega,by omega,hfr,?_⟩
  have : mtB tn (.agg [.int .u32 t,.str m c],.agg l8) = false:=hb2
  rw [this]; exact hpm2
 | true =>
  have hmt : mtB tn (.agg [.int .u32 t,.str m c],.agg l8) = true:=hb2
  have hd' : ∀ j,j < i → ∀ e,es[j]? = some e → keyOf3 e ≠ some (t,m,c):=fun j hj e he'=>hd j hj e he'
  refine ⟨hputS pm h2 (some (.m (es.eraseIdx i) (bs.eraseIdx i) clk)),n4,?_,by omega,by omega,fun p hp=>?_,by rw [hget_hputS_same,hmt]; rfl⟩
  ·rw [step1,hb2]
   rw [vif_t,v_ldn2_at (by rw [g2' n (by omega)]; exact gk),v_del_at hpm2 hlen hS he hd']
   rfl
  ·have hne : pm ≠ p:=by
    rcases hp with hp | rfl
    ·exact hp.2.symm
    ·exact ne_of_lt (by omega)
   rw [hget_hputS_ne _ _ hne]
   exact hfr p hp
def curZ (tn : Nat) (zs : List ((V × V) × Nat)) (seen : List Nat) : List ((V × V) × Nat):=zs.filter fun y=>!(memN y.2 seen && mtB tn y.1)
def unsZ (zs : List ((V × V) × Nat)) (seen : List Nat) : List ((V × V) × Nat):=zs.filter fun y=>!memN y.2 seen
theorem memN_cons {b x : Nat} {l : List Nat} : memN x (b :: l) = (Nat.beq b x || memN x l):=by
 show br (Nat.beq b x) true (memN x l) = _
 cases Nat.beq b x <;> rfl
theorem beq_eq {a b : Nat} : Nat.beq a b = decide (a = b):=by
 cases h : Nat.beq a b with
 | true=>rw [decide_eq_true (Nat.eq_of_beq_eq_true h)]
 | false=>rw [decide_eq_false (fun e=>by subst e; rw [Nat.beq_refl] at h; cases h)]
theorem nodup_snd {zs : List ((V × V) × Nat)} (h : (zs.map (·.2)).Nodup) {y y' : (V × V) × Nat} (hy : y ∈ zs) (hy' : y' ∈ zs) (e : y.2 = y'.2) : y = y':=by
 obtain ⟨i,hi,rfl⟩:=List.mem_iff_getElem.1 hy
 obtain ⟨j,hj,rfl⟩:=List.mem_iff_getElem.1 hy'
 have hi' : i < (zs.map (·.2)).length:=by simpa using hi
 have hj' : j < (zs.map (·.2)).length:=by simpa using hj
 have e' : (zs.map (·.2))[i] = (zs.map (·.2))[j]:=by simpa using e
 rcases Nat.lt_trichotomy i j with hlt | rfl | hlt
 ·exact absurd e' (List.pairwise_iff_getElem.1 h i j hi' hj' hlt)
 ·rfl
 ·exact absurd e'.symm (List.pairwise_iff_getElem.1 h j i hj' hi' hlt)
theorem map_erase {α β : Type} (f : α → β) : ∀ (l : List α) (i : Nat),(l.map f).eraseIdx i = (l.eraseIdx i).map f
 | [],_=>rfl
 | _ :: _,0=>rfl
 | x :: l,i + 1=>by
  show f x :: (l.map f).eraseIdx i = f x :: (l.eraseIdx i).map f
  rw [map_erase f l i]
theorem eraseIdx_filter : ∀ {zs : List ((V × V) × Nat)} {i : Nat} {y : (V × V) × Nat},(zs.map (·.2)).Nodup → zs[i]? = some y → zs.eraseIdx i = zs.filter fun z=>!decide (z.2 = y.2)
 | [],i,y,_,h=>by simp at h
 | z :: zs,0,y,hn,h=>by
  simp at h
  subst h
  have hn : (z.2 :: zs.map (·.2)).Nodup:=by simpa using hn
  obtain ⟨h1,h2⟩:=List.nodup_cons.1 hn
  rw [List.filter_cons_of_neg (by simp)]
  show zs = _
  exact (List.filter_eq_self.2 fun a ha=>by
   have : a.2 ≠ z.2:=fun e=>h1 (List.mem_map.2 ⟨a,ha,e⟩)
   simp [this]).symm
 | z :: zs,i + 1,y,hn,h=>by
  have hn : (z.2 :: zs.map (·.2)).Nodup:=by simpa using hn
  obtain ⟨h1,h2⟩:=List.nodup_cons.1 hn
  have h : zs[i]? = some y:=by simpa using h
  have hne : z.2 ≠ y.2:=fun e=>h1 (List.mem_map.2 ⟨y,List.mem_of_getElem? h,e.symm⟩)
  rw [List.filter_cons_of_pos (by simp [hne])]
  show z :: zs.eraseIdx i = _
  rw [eraseIdx_filter h2 h]
theorem curZ_step {zs : List ((V × V) × Nat)} {seen : List Nat} (hn : (zs.map (·.2)).Nodup) {i : Nat} {y : (V × V) × Nat} (hi : (curZ tn zs seen)[i]? = some y) :
  curZ tn zs (y.2 :: seen) = if mtB tn y.1 then (curZ tn zs seen).eraseIdx i else curZ tn zs seen:=by
 have hy : y ∈ curZ tn zs seen:=List.mem_of_getElem? hi
 have hyz : y ∈ zs:=(List.mem_filter.1 hy).1
 have hnc : ((curZ tn zs seen).map (·.2)).Nodup:=List.Nodup.sublist (List.Sublist.map _ List.filter_sublist) hn
 cases hmt : mtB tn y.1 with
 | true =>
  rw [if_pos rfl,eraseIdx_filter hnc hi]
  unfold curZ
  rw [List.filter_filter]
  refine List.filter_congr fun z hz=>?_
  rw [memN_cons,beq_eq]
  by_cases e : z.2 = y.2
  ·have:=nodup_snd hn hz hyz e
   subst this
   simp [hmt]
  ·simp [e,Ne.symm e]
 | false =>
  show _ = curZ tn zs seen
  unfold curZ
  refine List.filter_congr fun z hz=>?_
  rw [memN_cons,beq_eq]
  by_cases e : z.2 = y.2
  ·have:=nodup_snd hn hz hyz e
   subst this
   simp [hmt]
  ·simp [Ne.symm e]
theorem unsZ_step {zs : List ((V × V) × Nat)} {seen : List Nat} {y : (V × V) × Nat} (hy : y ∈ zs) (hu : memN y.2 seen = false) : (unsZ zs (y.2 :: seen)).length + 1 ≤ (unsZ zs seen).length:=by
 have e : unsZ zs (y.2 :: seen) = (unsZ zs seen).filter fun z=>!decide (z.2 = y.2):=by
  unfold unsZ
  rw [List.filter_filter]
  refine List.filter_congr fun z hz=>?_
  rw [memN_cons,beq_eq]
  by_cases e : z.2 = y.2
  ·simp [e]
  ·simp [e,Ne.symm e]
 rw [e]
 have hm : y ∈ unsZ zs seen:=List.mem_filter.2 ⟨hy,by rw [hu]; rfl⟩
 exact List.length_filter_lt_length_iff_exists.2 ⟨y,hm,by simp⟩
theorem key_dist {zs : List ((V × V) × Nat)} (hk : zs.Pairwise fun a b=>keyOf3 a.1 ≠ keyOf3 b.1) {seen : List Nat} {i j : Nat} {y z : (V × V) × Nat} (hj : j < i) (hy : (curZ tn zs seen)[i]? = some y) (hz : (curZ tn zs seen)[j]? = some z) : keyOf3 z.1 ≠ keyOf3 y.1:=by
 have hp : (curZ tn zs seen).Pairwise fun a b=>keyOf3 a.1 ≠ keyOf3 b.1:=List.Pairwise.sublist List.filter_sublist hk
 obtain ⟨l1,rfl⟩:=List.getElem?_eq_some_iff.1 hy
 obtain ⟨l2,rfl⟩:=List.getElem?_eq_some_iff.1 hz
 exact List.pairwise_iff_getElem.1 hp j i l2 l1 hj
theorem del_loop {zs : List ((V × V) × Nat)} (hg : tabG (fnKey g) T = some cloE) (hzb : hget zb hs = some (.c (.l bx) supb prevb)) (hzo : bx[zo]? = some (.int .u32 tn)) (hnd : (zs.map (·.2)).Nodup) (hlt : ∀ y ∈ zs,y.2 < clk) (hS : ∀ y ∈ zs,Shaped y.1) (hV : ∀ y ∈ zs,ValOK y.1) (hk : zs.Pairwise fun a b=>keyOf3 a.1 ≠ keyOf3 b.1)
  (hpm : pm.toN < n0.toN) (hz : zb.toN < n0.toN) (hzm : zb ≠ pm) (hi0 : n0.toN ≤ it.toN) {N : Nat} (hN : N ≤ 65535) :
  ∀ (k : Nat) (h : Heap) (n : K4) (seen : List Nat),(unsZ zs seen).length < k → (∀ p,p.toN < n0.toN → p ≠ pm → hget p h = hget p hs) → hget pm h = some (.m ((curZ tn zs seen).map (·.1)) ((curZ tn zs seen).map (·.2)) clk) → hget it h = some (.it pm clk seen clk) → it.toN < n.toN →
   n.toN + 4 * (unsZ zs seen).length ≤ N →
   (itK (delB' (call2 T (mm + 1))) k (dT pm g zb zo it) h n).sat fun r=>∃ h' n',r = .ok (.exit 0) (dT pm g zb zo it) h' n' ∧ (∀ p,p.toN < n0.toN → p ≠ pm → hget p h' = hget p hs) ∧
    hget pm h' = some (.m ((zs.filter fun y=>!mtB tn y.1).map (·.1)) ((zs.filter fun y=>!mtB tn y.1).map (·.2)) clk) ∧ n'.toN ≤ N:=by
 intro k
 induction k with
 | zero=>intro h n seen hk; omega
 | succ k ih =>
  intro h n seen hk' hold hpmh hit hin hnN
  rw [itK_round]
  show R.sat _ (onX (delB' (call2 T (mm + 1)) (dT pm g zb zo it) h n) (itK (delB' (call2 T (mm + 1))) k))
  apply onX_to
  show R.sat _ (nxtK (.ptr it 0) h n fun z4 h n=>v_ext 0 z4 fun z5=>vif z5 (blockX 1 (delR (call2 T (mm + 1)) (.ptr it 0) (dT pm g zb zo it) h n) fun t h n=>nR t h n)<|.ok (.exit 0) (dT pm g zb zo it) h n)
  unfold nxtK
  show R.sat _ (itR it h _ _)
  rw [itR_at hit]
  show R.sat _ (mpR pm h _)
  have hlt' : allLt clk ((curZ tn zs seen).map (·.2)) = true:=by
   have : ∀ l : List Nat,(∀ b ∈ l,b < clk) → allLt clk l = true:=fun l hl=>by
    induction l with
    | nil=>rfl
    | cons b l ihl =>
     show br (Nat.ble (Nat.succ b) clk) (allLt clk l) false = true
     rw [ble_iff.2 (hl b (List.mem_cons_self ..)),br_true]
     exact ihl fun b hb=>hl b (List.mem_cons_of_mem _ hb)
   refine this _ fun b hb=>?_
   obtain ⟨y,hy,rfl⟩:=List.mem_map.1 hb
   exact hlt y (List.mem_filter.1 hy).1
  rw [mpR_at hpmh,hlt',br_true,show Nat.ble clk clk = true from ble_iff.2 (Nat.le_refl _),br_true]
  refine goNone_to (by simp) (fun hall=>?_) fun i e b he hb hn=>?_
  ·have e0 : curZ tn zs seen = zs.filter fun y=>!mtB tn y.1:=by
    unfold curZ
    refine List.filter_congr fun y hy=>?_
    cases hu : memN y.2 seen with
    | true=>simp
    | false =>
     exfalso
     have hyc : y ∈ curZ tn zs seen:=List.mem_filter.2 ⟨hy,by rw [hu]; rfl⟩
     have:=hall y.2 (List.mem_map.2 ⟨y,hyc,rfl⟩)
     rw [hu] at this; cases this
   rw [e0] at hpmh
   exact ⟨h,n,rfl,hold,hpmh,by omega⟩
  ·obtain ⟨y,hyi,rfl,rfl⟩ : ∃ y,(curZ tn zs seen)[i]? = some y ∧ y.1 = e ∧ y.2 = b:=by
    rw [List.getElem?_map] at he hb
    cases hx : (curZ tn zs seen)[i]? with
    | none=>rw [hx] at he; cases he
    | some y =>
     rw [hx] at he hb
     exact ⟨y,rfl,by simpa using he,by simpa using hb⟩
   have hyc : y ∈ curZ tn zs seen:=List.mem_of_getElem? hyi
   have hyz : y ∈ zs:=(List.mem_filter.1 hyc).1
   unfold leafK
   rw [hputR_at]
   obtain ⟨h1,eh1⟩ : ∃ h1,h1 = hputS it h (some (.it pm clk (y.2 :: seen) clk)):=⟨_,rfl⟩
   rw [← eh1]
   have g1 : hget it h1 = some (.it pm clk (y.2 :: seen) clk):=by rw [eh1,hget_hputS_same]
   have g1' : ∀ p,p ≠ it → hget p h1 = hget p h:=fun p hp=>by rw [eh1,hget_hputS_ne _ _ hp.symm]
   have hpi : pm ≠ it:=ne_of_lt (by omega)
   have hpm1 : hget pm h1 = some (.m ((curZ tn zs seen).map (·.1)) ((curZ tn zs seen).map (·.2)) clk):=by rw [g1' pm hpi]; exact hpmh
   have hnc : ((curZ tn zs seen).map (·.2)).Nodup:=List.Nodup.sublist (List.Sublist.map _ List.filter_sublist) hnd
   have huns:=unsZ_step hyz hn
   obtain ⟨h',n',hR,hn1,hn2,hfr,hpm'⟩:=delR_step (n0:=n0) (n:=n) (mm:=mm) (seen:=seen) (i:=i) hg g1 hpm1 (by rw [g1' zb (ne_of_lt (by omega)),hold zb hz hzm]; exact hzb) hzo he hb (by simp) hnc
    (fun e he'=>by obtain ⟨z,hz',rfl⟩:=List.mem_map.1 he'; exact hS z (List.mem_filter.1 hz').1) (hV y hyz)
    (fun j hj e' he'=>by
     rw [List.getElem?_map] at he'
     cases hx : (curZ tn zs seen)[j]? with
     | none=>rw [hx] at he'; cases he'
     | some z =>
      rw [hx] at he'
      have he' : z.1 = e':=by simpa using he'
      subst he'
      exact key_dist hk hj hyi hx)
    hpm hz hzm hi0 hin (by omega)
   obtain ⟨⟨ek,ex⟩,eb⟩:=y
   show R.sat _ (blockX 1 (delR (call2 T (mm + 1)) (.ptr it 0) (dT pm g zb zo it) h1 n) fun t h n=>nR t h n)
   rw [hR]
   show R.sat _ (itK (delB' (call2 T (mm + 1))) k (dT pm g zb zo it) h' n')
   refine ih h' n' (eb :: seen) (by simp only at huns; omega) (fun p hp hne=>by rw [hfr p (.inl ⟨hp,hne⟩),g1' p (ne_of_lt (by omega)),hold p hp hne]) ?_ (by rw [hfr it (.inr rfl)]; exact g1) (by omega) (by simp only at huns; omega)
   rw [hpm',curZ_step hnd hyi]
   cases hmt : mtB tn (ek,ex) with
   | true=>simp only [if_true]; rw [map_erase,map_erase]
   | false=>rfl
theorem del_call {zs : List ((V × V) × Nat)} {f : FuncId} (hf : tabG (fnKey f) T = some delE) (hg : tabG (fnKey g) T = some cloE) (hpmh : hget pm hs = some (.m (zs.map (·.1)) (zs.map (·.2)) clk)) (hzb : hget zb hs = some (.c (.l bx) supb prevb)) (hzo : bx[zo]? = some (.int .u32 tn)) (hnd : (zs.map (·.2)).Nodup) (hlt : ∀ y ∈ zs,y.2 < clk) (hS : ∀ y ∈ zs,Shaped y.1) (hV : ∀ y ∈ zs,ValOK y.1) (hk : zs.Pairwise fun a b=>keyOf3 a.1 ≠ keyOf3 b.1)
  (hpm : pm.toN < n0.toN) (hz : zb.toN < n0.toN) (hzm : zb ≠ pm) {N : Nat} (hN : N ≤ 65535) (hn : n0.toN + 1 + 4 * zs.length ≤ N) (hbig : zs.length ≤ 1000000) :
  (call2 T (mm + 2) (fnKey f) [.map pm,.fn g [.ptr zb zo]] hs n0).sat fun r=>∃ h' n',r = .rv (.tup []) h' n' ∧ (∀ p,p.toN < n0.toN → p ≠ pm → hget p h' = hget p hs) ∧
   hget pm h' = some (.m ((zs.filter fun y=>!mtB tn y.1).map (·.1)) ((zs.filter fun y=>!mtB tn y.1).map (·.2)) clk) ∧ n'.toN ≤ N:=by
 obtain ⟨n1,hn1,hx1⟩:=K4.nx_u n0 (by omega)
 rw [call2_at,hf]
 apply retX_to
 show R.sat _ (mpR pm hs _)
 rw [mpR_at hpmh]
 show R.sat _ (newR hs n0 (.it pm clk [] clk) _)
 rw [newR_at hx1]
 obtain ⟨h1,eh1⟩ : ∃ h1,h1 = hputS n0 hs (some (.it pm clk [] clk)):=⟨_,rfl⟩
 rw [← eh1]
 have g1' : ∀ p,p.toN < n0.toN → hget p h1 = hget p hs:=fun p hp=>by rw [eh1,hget_hputS_ne _ _ (ne_of_lt hp).symm]
 show R.sat _ (blockX 0 (itK (delB' (call2 T (mm + 1))) 1000000000 (dT pm g zb zo n0) h1 n1) _)
 apply blockX_to
 have e1 : curZ tn zs [] = zs:=List.filter_eq_self.2 fun a _=>rfl
 have e2 : unsZ zs [] = zs:=List.filter_eq_self.2 fun a _=>rfl
 have key:=del_loop (mm:=mm) (N:=N) (n0:=n0) (it:=n0) hg hzb hzo hnd hlt hS hV hk hpm hz hzm (Nat.le_refl _) hN 1000000000 h1 n1 [] (by rw [e2]; omega) (fun p hp _=>g1' p hp) (by rw [e1,g1' pm hpm]; exact hpmh) (by rw [eh1,hget_hputS_same]) (by omega) (by rw [e2]; omega)
 refine R.sat_mono ?_ key
 rintro r ⟨h',n',rfl,hold,hp',hn'⟩
 exact ⟨h',n',rfl,hold,hp',hn'⟩
end
def noTwiceK (es : List (V × V)) (κ : R) : R:=@List.rec (V × V) (fun _=>R) κ (fun e tl ih=>@Prod.rec V V (fun _=>R) (fun k _=>lookK (.ks [.i,.s]) k tl (fF1 "a key twice") ih) e) es
theorem lookF_none {t m c : Nat} : ∀ {es : List (V × V)},(∀ e ∈ es,Shaped e) → lookF t m c es = none → ∀ e ∈ es,keyOf3 e ≠ some (t,m,c)
 | [],_,_,e,he=>by simp at he
 | (k,x) :: es,hS,h,e,he=>by
  obtain ⟨t',m',c',_,hk⟩:=hS (k,x) (List.mem_cons_self ..)
  have hk : k = .agg [.int .u32 t',.str m' c']:=hk
  subst hk
  unfold lookF at h
  by_cases hc : t = t' ∧ m = m' ∧ c = c'
  ·rw [if_pos hc] at h; cases h
  ·rw [if_neg hc] at h
   rcases List.mem_cons.1 he with rfl | he
   ·intro e
    simp only [keyOf3,Option.some.injEq,Prod.mk.injEq] at e
    exact hc ⟨e.1.symm,e.2.1.symm,e.2.2.symm⟩
   ·exact lookF_none (fun e he=>hS e (List.mem_cons_of_mem _ he)) h e he
theorem noTwiceK_good : ∀ {es : List (V × V)} {κ : R},(∀ e ∈ es,Shaped e) → (noTwiceK es κ).good → es.Pairwise (fun a b=>keyOf3 a ≠ keyOf3 b) ∧ noTwiceK es κ = κ
 | [],κ,_,_=>⟨List.Pairwise.nil,rfl⟩
 | (k,x) :: es,κ,hS,h=>by
  obtain ⟨t,m,c,_,hk⟩:=hS (k,x) (List.mem_cons_self ..)
  have hk : k = .agg [.int .u32 t,.str m c]:=hk
  subst hk
  have hS' : ∀ e ∈ es,Shaped e:=fun e he=>hS e (List.mem_cons_of_mem _ he)
  have e0 : noTwiceK ((.agg [.int .u32 t,.str m c],x) :: es) κ = (match lookF t m c es with | some _=>.fail "a key twice" | none=>noTwiceK es κ):=by
   show lookK (.ks [.i,.s]) (.agg [.int .u32 t,.str m c]) es (fF1 "a key twice") (noTwiceK es κ) = _
   rw [lookK_at hS']
   cases lookF t m c es <;> rfl
  rw [e0] at h ⊢
  cases hl : lookF t m c es with
  | some r=>rw [hl] at h; exact h.elim
  | none =>
   rw [hl] at h
   obtain ⟨h1,h2⟩:=noTwiceK_good hS' (show R.good (noTwiceK es κ) from h)
   exact ⟨List.pairwise_cons.2 ⟨fun e he=>(lookF_none hS' hl e he).symm,h1⟩,h2⟩
def valsK (es : List (V × V)) (κ : R) : R:=@List.rec (V × V) (fun _=>R) κ (fun e _ ih=>@Prod.rec V V (fun _=>R) (fun _ x=>asAgg x fun l=>lenK l fun j=>br (Nat.beq j 8) ih (.fail "a value")) e) es
theorem valsK_good : ∀ {es : List (V × V)} {κ : R},(valsK es κ).good → (∀ e ∈ es,ValOK e) ∧ valsK es κ = κ
 | [],κ,_=>⟨fun e he=>by simp at he,rfl⟩
 | (k,x) :: es,κ,h=>by
  have e0 : valsK ((k,x) :: es) κ = asAgg x fun l=>lenK l fun j=>br (Nat.beq j 8) (valsK es κ) (.fail "a value"):=rfl
  rw [e0] at h ⊢
  obtain ⟨l,rfl,e1⟩:=asAgg_good' h
  rw [e1,lenK_eq] at h ⊢
  obtain ⟨hl,e2⟩:=br_good h
  rw [e2] at h ⊢
  obtain ⟨h1,h2⟩:=valsK_good h
  refine ⟨fun e he=>?_,h2⟩
  rcases List.mem_cons.1 he with rfl | he
  ·exact ⟨l,rfl,Nat.eq_of_beq_eq_true hl⟩
  ·exact h1 e he
def mtK (tn : Nat) (k : V) (κ : Bool → R) : R:=asAgg k fun l=>unK l fun a l=>unK l fun b l=>nlK l (asI a fun _ t=>forceB (Nat.beq t tn) κ)
def keepK (tn : Nat) (es : List (V × V)) : List Nat → (List (V × V) → List Nat → R) → R :=
 @List.rec (V × V) (fun _=>List Nat → (List (V × V) → List Nat → R) → R) (fun bs κ=>κ [] [])
  (fun e _ ih bs κ=>@List.rec Nat (fun _=>R) (.fail "stamps") (fun b bs _=>@Prod.rec V V (fun _=>R) (fun k x=>mtK tn k fun q=>br q (ih bs κ) (ih bs fun es' bs'=>κ ((k,x) :: es') (b :: bs'))) e) bs) es
theorem keepK_eq {tn : Nat} : ∀ {zs : List ((V × V) × Nat)} {κ : List (V × V) → List Nat → R},(∀ y ∈ zs,Shaped y.1) → keepK tn (zs.map (·.1)) (zs.map (·.2)) κ = κ ((zs.filter fun y=>!mtB tn y.1).map (·.1)) ((zs.filter fun y=>!mtB tn y.1).map (·.2))
 | [],κ,_=>rfl
 | ((k,x),b) :: zs,κ,hS=>by
  obtain ⟨t,m,c,_,hk⟩:=hS ((k,x),b) (List.mem_cons_self ..)
  have hk : k = .agg [.int .u32 t,.str m c]:=hk
  subst hk
  have hS' : ∀ y ∈ zs,Shaped y.1:=fun y hy=>hS y (List.mem_cons_of_mem _ hy)
  show forceB (Nat.beq t tn) (fun q=>br q (keepK tn (zs.map (·.1)) (zs.map (·.2)) κ) (keepK tn (zs.map (·.1)) (zs.map (·.2)) fun es' bs'=>κ ((.agg [.int .u32 t,.str m c],x) :: es') (b :: bs'))) = _
  rw [forceB_eq,keepK_eq hS',keepK_eq hS']
  cases hb : Nat.beq t tn with
  | true =>
   rw [List.filter_cons_of_neg (by simp [mtB,hb])]; rfl
  | false =>
   rw [List.filter_cons_of_pos (by simp [mtB,hb])]; rfl
def delC (g : Nat) (n : K4) (args : List V) (hs : Heap) (acc : List K4) : R :=
 unK args fun x l=>unK l fun y l=>nlK l (asMap x (.fail "no map") fun pm=>asFn y fun g' caps=>br (Nat.beq g' g) (unK caps fun cb l=>nlK l (asP cb fun zb zo=>allLtK n acc (obR zb hs fun cs _ _=>csL cs fun bx=>nthK zo bx fun u=>asI u fun kd tn=>br (kbeq kd .u32) (mpR pm hs fun es bs clk =>
  br (ltK zb n) (br (ltK pm n) (br (allLt clk bs) (br (sameLn es bs) (br (nodupN bs) (lenM es fun j=>br (Nat.ble j 1000000) (shapeK es (valsK es (noTwiceK es (forceN (Nat.succ (Nat.mul 4 j)) fun j=>nxs j n fun M=>keepK tn es bs fun es' bs'=>hputR pm hs (some (.m es' bs' clk)) fun hf=>.rv (.tup []) hf M)))) (.fail "a great map"))
   (.fail "stamps")) (.fail "stamps")) (.fail "stamps")) (.fail "places")) (.fail "places")) (.fail "kinds")))) (.fail "another closure"))
def pDelF (g : Nat) : Prim:=fun args h n=>ordK 400 (delC g n args) args h n
section
variable {P : Program} {ρ : Env} {B : Nat}
theorem delF_ok (hρ : OneSym ρ) (hmix : P.follows .mixedOrders = true) {T : FC} (hT : TabOK P ρ B T) {f g : FuncId} (hf : tabG (fnKey f) T = some delE) (hgT : tabG (fnKey g) T = some cloE) : PrimOK P ρ B f (pDelF g):=by
 intro args h n v h1 n1 hx φ w xs gm hr
 refine ordK_ok (hr:=hx) gm ?_
 intro hs acc v1 hh1 m1 m sub hc res hOld hm1 gs
 have hg : (delC g n args hs acc).good:=good_of hc
 unfold delC at hc hg
 obtain ⟨x,l,rfl,q1⟩:=unK_good hg
 rw [q1] at hc hg
 obtain ⟨y,l,rfl,q2⟩:=unK_good hg
 rw [q2] at hc hg
 obtain ⟨rfl,q3⟩:=nlK_good hg
 rw [q3] at hc hg
 rcases asMap_good hg with ⟨_,q4⟩ | ⟨pm,rfl,q4⟩
 ·rw [q4] at hg; exact hg.elim
 rw [q4] at hc hg
 obtain ⟨g',caps,rfl,q5⟩:=asFn_good hg
 rw [q5] at hc hg
 obtain ⟨hgg,q6⟩:=br_good hg
 rw [q6] at hc hg
 obtain rfl:=Nat.eq_of_beq_eq_true hgg
 obtain ⟨cb,l,rfl,q7⟩:=unK_good hg
 rw [q7] at hc hg
 obtain ⟨rfl,q8⟩:=nlK_good hg
 rw [q8] at hc hg
 obtain ⟨zb,zo,rfl,q9⟩:=asP_good hg
 rw [q9] at hc hg
 obtain ⟨hacc,q10⟩:=allLtK_good hg
 rw [q10] at hc
 obtain ⟨cs,sup0,prev0,hzb,hc⟩:=obR_rv hc
 obtain ⟨bx,rfl,q12⟩:=csL_good (good_of hc)
 rw [q12] at hc
 obtain ⟨u,hu,hc⟩:=nthK_rv hc
 obtain ⟨kd,tn,rfl,hc⟩:=asI_rv hc
 obtain ⟨hkd,hc⟩:=br_rv hc
 obtain rfl:=kbeq_iff.1 hkd
 obtain ⟨es,bs,clk,hpm,hc⟩:=mpR_rv hc
 obtain ⟨l1,hc⟩:=br_rv hc
 obtain ⟨l2,hc⟩:=br_rv hc
 obtain ⟨l3,hc⟩:=br_rv hc
 obtain ⟨l4,hc⟩:=br_rv hc
 obtain ⟨l5,hc⟩:=br_rv hc
 rw [lenM_eq] at hc
 obtain ⟨l6,hc⟩:=br_rv hc
 have l1:=ltK_iff.1 l1
 have l2:=ltK_iff.1 l2
 have l4:=sameLn_iff l4
 have l5:=nodupN_iff l5
 have l6:=ble_iff.1 l6
 obtain ⟨hS,q15⟩:=shapeK_good (good_of hc)
 rw [q15] at hc
 obtain ⟨hV,q16⟩:=valsK_good (good_of hc)
 rw [q16] at hc
 obtain ⟨hK,q17⟩:=noTwiceK_good hS (good_of hc)
 rw [q17,forceN_eq] at hc
 obtain ⟨M,hM,q18⟩:=nxs_good (good_of hc)
 rw [q18] at hc
 clear q1 q2 q3 q4 q5 q6 q7 q8 q9 q10 q12 q15 q16 q17 q18 hg
 have hM : M.toN = n.toN + (4 * es.length + 1):=hM
 obtain ⟨zs,rfl,rfl⟩ : ∃ zs : List ((V × V) × Nat),es = zs.map (·.1) ∧ bs = zs.map (·.2):=⟨es.zip bs,(List.map_fst_zip (by omega)).symm,(List.map_snd_zip (by omega)).symm⟩
 have hS' : ∀ y ∈ zs,Shaped y.1:=fun y hy=>hS _ (List.mem_map.2 ⟨y,hy,rfl⟩)
 rw [keepK_eq hS',hputR_at] at hc
 cases hc
 have hzm : zb ≠ pm:=fun e=>by subst e; rw [hpm] at hzb; cases hzb
 rw [List.length_map] at hM l6
 have key:=del_call (mm:=98) hf hgT hpm hzb hu l5 (fun y hy=>allLt_iff l3 y.2 (List.mem_map.2 ⟨y,hy,rfl⟩)) hS' (fun y hy=>hV _ (List.mem_map.2 ⟨y,hy,rfl⟩)) ((List.pairwise_map (R:=fun a b=>keyOf3 a ≠ keyOf3 b) (f:=fun y : (V × V) × Nat=>y.1)).1 hK) l2 l1 hzm (m1.toN_max) (by omega) l6
 refine (call2_all hρ hmix hT 100).1 f _ hs n _ (R.sat_mono ?_ key) φ w xs gs hr
 rintro r ⟨h',n',rfl,hold,hp',hn'⟩
 refine ⟨.inl ⟨rfl,rfl⟩,fun p hp=>⟨?_,hOld p hp⟩,by omega⟩
 by_cases e : p = pm
 ·subst e
  rw [hget_hputS_same,hp']
 ·rw [hget_hputS_ne _ _ (Ne.symm e)]
  exact (hold p (hacc p hp) e).symm
end
end Go.Ev

namespace Go.Ev
set_option linter.unusedVariables false
set_option maxRecDepth 100000
open Go.RowKit
structure Itm where
 u : Nat
 t : Nat
 m : Nat
 c : Nat
section
def Itm.cells (x : Itm) : List V:=[.int .u32 x.t,.str x.m x.c]
def flatI (l : List Itm) : List V:=l.flatMap Itm.cells
theorem flatI_get : ∀ {l : List Itm} {i : Nat} {x : Itm},l[i]? = some x → (flatI l)[2 * i]? = some (.int .u32 x.t) ∧ (flatI l)[2 * i + 1]? = some (.str x.m x.c)
 | [],i,x,h=>by simp at h
 | y :: l,0,x,h=>by simp at h; subst h; exact ⟨rfl,rfl⟩
 | y :: l,i + 1,x,h=>by
  have:=flatI_get (l:=l) (i:=i) (x:=x) (by simpa using h)
  have e : flatI (y :: l) = .int .u32 y.t :: .str y.m y.c :: flatI l:=rfl
  rw [e,show 2 * (i + 1) = 2 * i + 1 + 1 by omega]
  exact this
theorem flatI_len : ∀ l : List Itm,(flatI l).length = 2 * l.length
 | []=>rfl
 | y :: l=>by
  have e : flatI (y :: l) = .int .u32 y.t :: .str y.m y.c :: flatI l:=rfl
  rw [e,List.length_cons,List.length_cons,List.length_cons,flatI_len l]; omega
def gathK (es : List (V × V)) (j : Nat) : List V → (List Itm → R) → R :=
 @Nat.rec (fun _=>List V → (List Itm → R) → R) (fun l κ=>nlK l (κ [])) (fun _ ih l κ=>unK l fun a l=>unK l fun b l=>asI a fun kd t=>br (kbeq kd .u32) (br (Nat.ble (Nat.succ t) 4294967296) (asStr b fun m c=>br (Nat.ble (Nat.succ c) (Nat.pow 256 m))
  (lookK (.ks [.i,.s]) (.agg [a,b]) es (fun r=>asI r fun k u=>br (kbeq k .i64) (br (Nat.ble (Nat.succ u) 4611686018427387904) (ih l fun zs=>κ (⟨u,t,m,c⟩ :: zs)) (.fail "a great number")) (.fail "kinds")) (.fail "absent")) (.fail "a text")) (.fail "a number")) (.fail "kinds")) j
def ItmOK (es : List (V × V)) (x : Itm) : Prop:=x.t < 4294967296 ∧ x.c < 256 ^ x.m ∧ x.u < 4611686018427387904 ∧ lookF x.t x.m x.c es = some (.int .i64 x.u)
theorem gathK_good {es : List (V × V)} (hS : ∀ e ∈ es,Shaped e) : ∀ {j : Nat} {l : List V} {κ : List Itm → R},(gathK es j l κ).good → ∃ its,l = flatI its ∧ its.length = j ∧ (∀ x ∈ its,ItmOK es x) ∧ gathK es j l κ = κ its
 | 0,l,κ,h=>by
  obtain ⟨rfl,e⟩:=nlK_good (show R.good (nlK l (κ [])) from h)
  exact ⟨[],rfl,rfl,fun x hx=>by simp at hx,e⟩
 | j + 1,l,κ,h=>by
  have e0 : gathK es (j + 1) l κ = unK l fun a l=>unK l fun b l=>asI a fun kd t=>br (kbeq kd .u32) (br (Nat.ble (Nat.succ t) 4294967296) (asStr b fun m c=>br (Nat.ble (Nat.succ c) (Nat.pow 256 m))
   (lookK (.ks [.i,.s]) (.agg [a,b]) es (fun r=>asI r fun k u=>br (kbeq k .i64) (br (Nat.ble (Nat.succ u) 4611686018427387904) (gathK es j l fun zs=>κ (⟨u,t,m,c⟩ :: zs)) (.fail "a great number")) (.fail "kinds")) (.fail "absent")) (.fail "a text")) (.fail "a number")) (.fail "kinds"):=rfl
  rw [e0] at h ⊢
  obtain ⟨a,l,rfl,e1⟩:=unK_good h
  rw [e1] at h ⊢
  obtain ⟨b,l,rfl,e2⟩:=unK_good h
  rw [e2] at h ⊢
  obtain ⟨kd,t,rfl,e3⟩:=asI_good' h
  rw [e3] at h ⊢
  obtain ⟨hk,e4⟩:=br_good h
  rw [e4] at h ⊢
  obtain ⟨ht,e5⟩:=br_good h
  rw [e5] at h ⊢
  obtain ⟨m,c,rfl,e6⟩:=asStr_good h
  rw [e6] at h ⊢
  obtain ⟨hc,e7⟩:=br_good h
  rw [e7] at h ⊢
  have:=kbeq_iff.1 hk
  subst this
  rw [lookK_at hS] at h ⊢
  cases hl : lookF t m c es with
  | none=>rw [hl] at h; exact h.elim
  | some r =>
   rw [hl] at h
   replace h : R.good (asI r fun k u=>br (kbeq k .i64) (br (Nat.ble (Nat.succ u) 4611686018427387904) (gathK es j l fun zs=>κ (⟨u,t,m,c⟩ :: zs)) (.fail "a great number")) (.fail "kinds")):=h
   show ∃ its,_ ∧ _ ∧ _ ∧ (asI r fun k u=>br (kbeq k .i64) (br (Nat.ble (Nat.succ u) 4611686018427387904) (gathK es j l fun zs=>κ (⟨u,t,m,c⟩ :: zs)) (.fail "a great number")) (.fail "kinds")) = κ its
   obtain ⟨k,u,rfl,e8⟩:=asI_good' h
   rw [e8] at h ⊢
   obtain ⟨hk2,e9⟩:=br_good h
   rw [e9] at h ⊢
   obtain ⟨hu,e10⟩:=br_good h
   rw [e10] at h ⊢
   have:=kbeq_iff.1 hk2
   subst this
   obtain ⟨its,rfl,hlen,hok,e11⟩:=gathK_good hS h
   refine ⟨⟨u,t,m,c⟩ :: its,rfl,by rw [List.length_cons,hlen],fun x hx=>?_,e11⟩
   rcases List.mem_cons.1 hx with rfl | hx
   ·exact ⟨ble_iff.1 ht,ble_iff.1 hc,ble_iff.1 hu,hl⟩
   ·exact hok x hx
def insU (x : Itm) (l : List Itm) : (List Itm → R) → R :=
 @List.rec Itm (fun _=>(List Itm → R) → R) (fun κ=>κ [x]) (fun y ys ih κ=>br (Nat.ble x.u y.u) (κ (x :: y :: ys)) (ih fun zs=>κ (y :: zs))) l
def sortU (l : List Itm) : (List Itm → R) → R :=
 @List.rec Itm (fun _=>(List Itm → R) → R) (fun κ=>κ []) (fun x _ ih κ=>ih fun zs=>insU x zs κ) l
def insUL (x : Itm) : List Itm → List Itm
 | []=>[x]
 | y :: ys=>if x.u ≤ y.u then x :: y :: ys else y :: insUL x ys
def sortUL : List Itm → List Itm
 | []=>[]
 | x :: l=>insUL x (sortUL l)
theorem insU_eq (x : Itm) : ∀ (l : List Itm) (κ : List Itm → R),insU x l κ = κ (insUL x l)
 | [],κ=>rfl
 | y :: ys,κ=>by
  show br (Nat.ble x.u y.u) (κ (x :: y :: ys)) (insU x ys fun zs=>κ (y :: zs)) = κ (if x.u ≤ y.u then x :: y :: ys else y :: insUL x ys)
  rw [insU_eq x ys]
  by_cases h : x.u ≤ y.u
  ·rw [if_pos h,ble_iff.2 h]; rfl
  ·rw [if_neg h,ble_false (by omega)]; rfl
theorem sortU_eq : ∀ (l : List Itm) (κ : List Itm → R),sortU l κ = κ (sortUL l)
 | [],κ=>rfl
 | x :: l,κ=>by
  show sortU l (fun zs=>insU x zs κ) = _
  rw [sortU_eq l,insU_eq]; rfl
theorem insUL_perm (x : Itm) : ∀ l,(insUL x l).Perm (x :: l)
 | []=>List.Perm.refl _
 | y :: ys=>by
  unfold insUL
  split
  ·exact List.Perm.refl _
  ·exact ((insUL_perm x ys).cons y).trans (List.Perm.swap x y ys)
theorem sortUL_perm : ∀ l,(sortUL l).Perm l
 | []=>List.Perm.refl _
 | x :: l=>(insUL_perm x _).trans ((sortUL_perm l).cons x)
theorem insUL_sorted (x : Itm) : ∀ l : List Itm,l.Pairwise (fun a b=>a.u ≤ b.u) → (insUL x l).Pairwise (fun a b=>a.u ≤ b.u)
 | [],_=>by simp [insUL]
 | y :: ys,h=>by
  obtain ⟨h1,h2⟩:=List.pairwise_cons.1 h
  unfold insUL
  split
  ·rename_i hxy
   refine List.pairwise_cons.2 ⟨fun z hz=>?_,h⟩
   rcases List.mem_cons.1 hz with e | hz
   ·subst e; exact hxy
   ·exact Nat.le_trans hxy (h1 z hz)
  ·rename_i hxy
   refine List.pairwise_cons.2 ⟨fun z hz=>?_,insUL_sorted x ys h2⟩
   rcases List.mem_cons.1 ((insUL_perm x ys).mem_iff.1 hz) with e | hz
   ·subst e; omega
   ·exact h1 z hz
theorem sortUL_sorted : ∀ l,(sortUL l).Pairwise (fun a b=>a.u ≤ b.u)
 | []=>List.Pairwise.nil
 | x :: l=>insUL_sorted x _ (sortUL_sorted l)
def strictU (l : List Itm) (κ : R) : R :=
 @List.rec Itm (fun _=>R) κ (fun x tl ih=>@List.rec Itm (fun _=>R) ih (fun y _ _=>br (Nat.ble (Nat.succ x.u) y.u) ih (.fail "two alike")) tl) l
theorem strictU_good : ∀ {l : List Itm} {κ : R},(strictU l κ).good → l.Pairwise (fun a b=>a.u < b.u) ∧ strictU l κ = κ
 | [],κ,_=>⟨List.Pairwise.nil,rfl⟩
 | [x],κ,h=>⟨by simp,rfl⟩
 | x :: y :: l,κ,h=>by
  have e0 : strictU (x :: y :: l) κ = br (Nat.ble (Nat.succ x.u) y.u) (strictU (y :: l) κ) (.fail "two alike"):=rfl
  rw [e0] at h ⊢
  obtain ⟨h1,e1⟩:=br_good h
  rw [e1] at h ⊢
  obtain ⟨h2,e2⟩:=strictU_good h
  have h1 : x.u < y.u:=ble_iff.1 h1
  refine ⟨List.pairwise_cons.2 ⟨fun z hz=>?_,h2⟩,e2⟩
  rcases List.mem_cons.1 hz with rfl | hz
  ·exact h1
  ·exact Nat.lt_trans h1 ((List.pairwise_cons.1 h2).1 z hz)
theorem strictU_of : ∀ {l : List Itm} {κ : R},l.Pairwise (fun a b=>a.u < b.u) → strictU l κ = κ
 | [],κ,_=>rfl
 | [x],κ,_=>rfl
 | x :: y :: l,κ,h=>by
  obtain ⟨h1,h2⟩:=List.pairwise_cons.1 h
  show br (Nat.ble (Nat.succ x.u) y.u) (strictU (y :: l) κ) (.fail "two alike") = κ
  rw [ble_iff.2 (h1 y (List.mem_cons_self ..)),br_true]
  exact strictU_of h2
theorem sorted_one {l l' s : List Itm} (hs : s.Pairwise (fun a b=>a.u < b.u)) (h1 : s.Perm l) (h2 : l'.Perm l) (h3 : l'.Pairwise (fun a b=>a.u ≤ b.u)) : l' = s:=by
 have hinj : ∀ a b : Itm,a ∈ l' → b ∈ s → a.u ≤ b.u → b.u ≤ a.u → a = b:=fun a b ha hb h h'=>by
  have ha' : a ∈ s:=h1.mem_iff.2 (h2.mem_iff.1 ha)
  obtain ⟨i,hi,rfl⟩:=List.mem_iff_getElem.1 ha'
  obtain ⟨j,hj,rfl⟩:=List.mem_iff_getElem.1 hb
  rcases Nat.lt_trichotomy i j with hlt | rfl | hlt
  ·have:=List.pairwise_iff_getElem.1 hs i j hi hj hlt; omega
  ·rfl
  ·have:=List.pairwise_iff_getElem.1 hs j i hj hi hlt; omega
 exact List.Perm.eq_of_pairwise (le:=fun a b=>a.u ≤ b.u) hinj h3 (hs.imp fun h=>Nat.le_of_lt h) (h2.trans h1.symm)
def flatK' (l : List Itm) : (List V → R) → R:=@List.rec Itm (fun _=>(List V → R) → R) (fun κ=>κ []) (fun x _ ih κ=>@Itm.rec (fun _=>R) (fun _ t m c=>ih fun zs=>κ (.int .u32 t :: .str m c :: zs)) x) l
theorem flatK'_eq : ∀ (l : List Itm) (κ : List V → R),flatK' l κ = κ (flatI l)
 | [],κ=>rfl
 | ⟨u,t,m,c⟩ :: l,κ=>by
  show flatK' l (fun zs=>κ (.int .u32 t :: .str m c :: zs)) = _
  rw [flatK'_eq l]; rfl
def notP (o : Option K4) (p : K4) : Bool:=@Option.rec K4 (fun _=>Bool) true (fun r=>br (K4.beq r p) false true) o
theorem notP_iff {o : Option K4} {p : K4} (h : notP o p = true) : o ≠ some p:=fun e=>by
 subst e
 have h : br (K4.beq p p) false true = true:=h
 rw [K4.beq_iff.2 rfl] at h; cases h
def pSortK (g : Nat) : Prim:=fun args h n =>
 unK args fun x l=>unK l fun y l=>nlK l (asFn y fun g' caps=>br (Nat.beq g' g) (unK caps fun cb l=>nlK l (asP cb fun zb zo=>obR zb h fun cs _ pv=>csL cs fun bx=>nthK zo bx fun u=>asP u fun lp lo=>obR lp h fun cs _ pv2=>csL cs fun lx=>nthK lo lx fun u=>asMap u (.fail "no map") fun pm=>mpR pm h fun es bs clk =>
  asSl x (.fail "nothing to sort") fun p off len cap ex esz=>br (Nat.beq esz 2) (br (Nat.ble 1 len) (br (Nat.ble len 1000000) (obR p h fun cs _ pv3=>br (notP pv p) (br (notP pv2 p) (br (notP pv3 zb) (br (notP pv3 lp) (br (K4.beq p zb) (.fail "one place") (br (K4.beq p lp) (.fail "one place") (shapeK es
   (forceN (Nat.mul len 2) fun m=>rangeC cs off m fun z=>csL z fun xs=>gathK es len xs fun its=>sortU its fun ys=>strictU ys (flatK' ys fun zs=>storeR h p off (.l zs) fun h=>.rv (.tup []) h n)))))
   (.fail "tied")) (.fail "tied")) (.fail "tied")) (.fail "tied")) (.fail "many keys")) (.fail "nothing to sort")) (.fail "element"))) (.fail "another closure"))
end
section
variable {P : Program} {ρ : Env} {B : Nat}
def LookIs (P : Program) (ty : TypeId) (bm : Nat) (O : Obj) (key v : Value) : Prop:=∀ W : World,W.heap[bm]? = some O → (Instr.lookup ty (.map (some bm)) key false).run P W = .ok v W
def CmpFnK (P : Program) (g : FuncId) (ty : TypeId) : Prop:=∀ (bz oz bl ol bm : Nat) (O : Obj) (ta tb : Int) (sa sb : ByteArray) (ua ub : Nat) (W : World),W.cell? ⟨bz,oz,none⟩ = some (.pointer (some ⟨bl,ol,none⟩)) → W.cell? ⟨bl,ol,none⟩ = some (.map (some bm)) → W.heap[bm]? = some O →
 bz < W.heap.size → bl < W.heap.size → bm < W.heap.size → LookIs P ty bm O (.agg #[.int .u32 ta,.string sa]) (.int .i64 ua) → LookIs P ty bm O (.agg #[.int .u32 tb,.string sb]) (.int .i64 ub) → ua < 4611686018427387904 → ub < 4611686018427387904 →
 Calls P g #[.agg #[.int .u32 ta,.string sa],.agg #[.int .u32 tb,.string sb],.pointer (some ⟨bz,oz,none⟩)] W fun e w'=>e = .returned (.int .i64 ((ua : Int) - ub)) ∧ ∃ q os',w' = Go.Sort.grow (W.drewN q) os'
def SortFnK (P : Program) (f : FuncId) : Prop:=∀ (α : Type) [Inhabited α] (enc : α → List Value) (hk : ∀ x,(enc x).length = 2) (h1 : ∀ x,∀ v ∈ enc x,v.oneCell' = true) (cf : α → α → Int) (hO : Go.Sort.SWO (Go.Proofs.ltOf cf)) (g : Nat) (cb : Array Value) (blk off cap : Nat) (d : Array α) (w : World),
 (∀ args w,(callFunc g args).run P w = .ok (.enter g args) w) → Go.Proofs.CmpLays P g cb enc 2 cf blk off d.size w → Go.Sort.HoldsK enc 2 w blk off d → blk < w.heap.size → d.size < 4611686018427387904 →
 Calls P f #[.slice (some ⟨blk,off,none⟩) d.size cap,.func (.func g) #[] cb] w fun e w'=>e = .returned (.tuple #[]) ∧ ∃ d' n os,Go.Sort.PermIn 0 d.size d d' ∧ Go.Sort.SortedIn (Go.Proofs.ltOf cf) 0 d.size d' ∧ w' = Go.Proofs.sortWorldK enc 2 w blk off n d' os
theorem look_is {ty kt et : TypeId} (ht : P.underlying ty = some (.map kt et)) (hp : cKey P kt = some (.ks [.i,.s])) {es : List (V × V)} (hS : ∀ e ∈ es,Shaped e) {t m c u : Nat} (hl : lookF t m c es = some (.int .i64 u)) {φ : Emb} {key : Value} (hk : rel ρ φ (.agg [.int .u32 t,.str m c]) key)
  {ents : Array MapEntry} {clk bm : Nat} (hE : EsOK ρ φ es ents.toList) : LookIs P ty bm (.map ents clk) key (.int .i64 (dec .i64 u)):=by
 intro W hW
 have e0 : lookK (.ks [.i,.s]) (.agg [.int .u32 t,.str m c]) es (fun r=>R.rv r hempty n00) (.rv (.tup []) hempty n00) = .rv (.int .i64 u) hempty n00:=by rw [lookK_at hS,hl]
 obtain ⟨r,hf,hr⟩:=lookK_good hp (k:=.agg [.int .u32 t,.str m c]) (κf:=fun r=>R.rv r hempty n00) (κn:=.rv (.tup []) hempty n00) (es:=es) (by rw [e0]; trivial)
 have hck:=run_checkKey (P:=P) (b:=ents.isEmpty) (d:=9998) hp (key_shape hp hk (by exact ⟨_,rfl,rfl⟩)).1 W (key_shape hp hk (by exact ⟨_,rfl,rfl⟩)).2
 cases r with
 | none =>
  have hr : lookK (.ks [.i,.s]) (.agg [.int .u32 t,.str m c]) es (fun r=>R.rv r hempty n00) (.rv (.tup []) hempty n00) = .rv (.tup []) hempty n00:=hr
  rw [e0] at hr; cases hr
 | some i =>
  obtain ⟨ee,hee,hr⟩:=hr
  rw [e0] at hr
  simp only [R.rv.injEq] at hr
  obtain ⟨mm,hmm,_,hval⟩:=EsOK_get hE hee
  rw [← hr.1] at hval
  obtain ⟨_,hval⟩:=rel_int hval
  have hfk:=(run_findKey (P:=P) (w:=W) hp hk hf hE).1
  have hgo : (getObj bm).run P W = .ok (.map ents clk) W:=by simp [getObj,Sem.run,hW]
  have hmm' : ents[i]? = some mm:=by simpa using hmm
  simp only [Instr.lookup,Sem.run_bind,run_underlying ht,Result.andThen_ok,Sem.run_pure,hgo,hck,hfk]
  simp [hmm',hval]
theorem put_rowV {h : Heap} {n : K4} {φ : Emb} {w : World} (g : Gam ρ B h n φ w) {p : K4} {off : Nat} {cs y z : Cs} {prev : Option K4} {b s tot : Nat} (hp : hget p h = some (.c cs false prev)) (hφ : φ p = some (b,s,tot)) (hz : SplOf cs off y z)
  {d : Array Value} (hl : d.size = y.len) (hv : ∀ i v,y.at i = some v → rel ρ φ v d[i]! ∧ (d[i]!).oneCell' = true) (k : Nat) (os : Array Obj) :
  Gam ρ B (hputS p (killS prev h) (some (.c z false none))) n φ (Go.Sort.grow (Go.Sort.putRow id (Go.Sort.ahead w k) b (s + off) d) os) ∧
  Fr h (hputS p (killS prev h) (some (.c z false none))) φ φ n n w (Go.Sort.grow (Go.Sort.putRow id (Go.Sort.ahead w k) b (s + off) d) os):=by
 obtain ⟨c,e,fr,k1,k2,k3,k4,k5⟩:=g.obj p _ b s tot hp hφ
 obtain ⟨z1,z2,z3,z4,z5⟩:=hz
 have hb:=(g.blk p b s tot hφ).2
 have hat : ∀ i,(Go.Sort.putCells id (s + off) d c)[i]? = if s + off ≤ i ∧ i < s + off + d.size then (c[i]?).map (fun _=>d[i - (s + off)]!) else c[i]?:=fun i=>by
  unfold Go.Sort.putCells
  rw [Array.getElem?_mapIdx]
  split
  ·rename_i hi
   cases c[i]? <;> simp
  ·rename_i hi
   cases c[i]? <;> simp
 have hG : Gam ρ B (hputS p (killS prev h) (some (.c z false none))) n φ (wput w b (.cells (Go.Sort.putCells id (s + off) d c) e fr)):=by
  refine g.write (o:=.c cs false prev) (o':=.c z false none) hp hφ rfl rfl ⟨_,e,fr,wput_same hb,by unfold Go.Sort.putCells; rw [Array.size_mapIdx,k2],by rw [z2]; exact k3,k4,fun i v hi=>?_⟩
  by_cases ha : i < off
  ·rw [z3 i ha] at hi
   obtain ⟨x,hx,hr⟩:=k5 i v hi
   exact ⟨x,by show (Go.Sort.putCells id (s + off) d c)[s + i]? = some x; rw [hat,if_neg (by omega)]; exact hx,hr⟩
  ·by_cases hb' : i < off + y.len
   ·obtain ⟨j,rfl⟩ : ∃ j,i = off + j:=⟨i - off,by omega⟩
    have hin : s + (off + j) < c.size:=by omega
    rw [z4 j (by omega)] at hi
    refine ⟨d[j]!,?_,(hv j v hi).1,(hv j v hi).2⟩
    show (Go.Sort.putCells id (s + off) d c)[s + (off + j)]? = some _
    rw [hat,if_pos (by omega),Array.getElem?_eq_getElem hin]
    simp only [Option.map_some]
    rw [show s + (off + j) - (s + off) = j by omega]
   ·rw [z5 i (by omega)] at hi
    obtain ⟨x,hx,hr⟩:=k5 i v hi
    exact ⟨x,by show (Go.Sort.putCells id (s + off) d c)[s + i]? = some x; rw [hat,if_neg (by omega)]; exact hx,hr⟩
 have hF : Fr h (hputS p (killS prev h) (some (.c z false none))) φ φ n n w (wput w b (.cells (Go.Sort.putCells id (s + off) d c) e fr)):=Fr.write (o:=.c cs false prev) hp hφ
 have hheap : ∀ i,i < w.heap.size → (Go.Sort.grow (Go.Sort.putRow id (Go.Sort.ahead w k) b (s + off) d) os).heap[i]? = (wput w b (.cells (Go.Sort.putCells id (s + off) d c) e fr)).heap[i]?:=fun i hi=>by
  show ((w.heap.modify b (Go.Sort.onCells (Go.Sort.putCells id (s + off) d))) ++ os)[i]? = _
  rw [Array.getElem?_append_left (by rw [Array.size_modify]; exact hi),Array.getElem?_modify]
  by_cases e' : b = i
  ·subst e'
   rw [if_pos rfl,wput_same hi,k1]; rfl
  ·rw [if_neg e',wput_ne e']
 have hbel : Below (wput w b (.cells (Go.Sort.putCells id (s + off) d c) e fr)).heap.size (wput w b (.cells (Go.Sort.putCells id (s + off) d c) e fr)) (Go.Sort.grow (Go.Sort.putRow id (Go.Sort.ahead w k) b (s + off) d) os):=by
  refine ⟨rfl,rfl,rfl,?_,fun i hi=>?_⟩
  ·rw [wput_size]
   show _ ≤ ((w.heap.modify b (Go.Sort.onCells (Go.Sort.putCells id (s + off) d))) ++ os).size
   rw [Array.size_append,Array.size_modify]; omega
  ·rw [wput_size] at hi
   exact hheap i hi
 obtain ⟨g2,f2⟩:=hG.below hbel
 exact ⟨g2,hF.trans f2⟩
def Itm.vals (x : Itm) : List Value:=[.int .u32 (x.t : Int),.string ⟨(decL x.m x.c).toArray⟩]
theorem Itm.rel_t {φ : Emb} {x : Itm} (h : x.t < 4294967296) {X : Value} (hr : rel ρ φ (.int .u32 x.t) X) : X = .int .u32 (x.t : Int):=by
 obtain ⟨_,rfl⟩:=rel_int hr
 rw [dec_nonneg (by simp only [Hk]; exact h)]
theorem Itm.rel_s {φ : Emb} {x : Itm} (h : x.c < 256 ^ x.m) {X : Value} (hr : rel ρ φ (.str x.m x.c) X) : X = .string ⟨(decL x.m x.c).toArray⟩:=by
 obtain ⟨s,rfl,hsz,hc⟩:=(by simpa only [rel] using hr : ∃ s : ByteArray,X = .string s ∧ s.size = x.m ∧ encL s.data.toList = x.c)
 have : s.data.toList = decL x.m x.c:=encL_inj (by rw [decL_len,← hsz]; rfl) (by rw [hc,decL_enc _ _ h])
 rw [← this]
theorem Itm.rel_t' {φ : Emb} {x : Itm} (h : x.t < 4294967296) : rel ρ φ (.int .u32 x.t) (.int .u32 (x.t : Int)):=by
 simp only [rel]
 exact ⟨by simp only [Mk]; exact h,by rw [dec_nonneg (by simp only [Hk]; exact h)]⟩
theorem Itm.rel_s' {φ : Emb} {x : Itm} (h : x.c < 256 ^ x.m) : rel ρ φ (.str x.m x.c) (.string ⟨(decL x.m x.c).toArray⟩):=by
 simp only [rel]
 exact ⟨_,rfl,decL_len _ _,decL_enc _ _ h⟩
theorem Itm.rel_key {φ : Emb} {x : Itm} (h1 : x.t < 4294967296) (h2 : x.c < 256 ^ x.m) : rel ρ φ (.agg [.int .u32 x.t,.str x.m x.c]) (.agg x.vals.toArray):=by
 simp only [rel]
 exact ⟨x.vals.toArray,rfl,rels_cons.2 ⟨_,_,rfl,Itm.rel_t' h1,rels_cons.2 ⟨_,_,rfl,Itm.rel_s' h2,rels_nil.2 rfl⟩⟩,fun y hy=>by
  simp [Itm.vals] at hy
  rcases hy with rfl | rfl <;> rfl⟩
theorem sortWorldK_heap {α : Type} [Inhabited α] {enc : α → List Value} {w : World} {blk off m b : Nat} {dk : Array α} {os : Array Obj} (hb : b < w.heap.size) (hne : blk ≠ b) : (Go.Proofs.sortWorldK enc 2 w blk off m dk os).heap[b]? = w.heap[b]?:=by
 show ((w.heap.modify blk (Go.Sort.onCells (Go.Sort.putCells id off (Go.Sort.flatK enc 2 dk)))) ++ os)[b]? = _
 rw [Array.getElem?_append_left (by rw [Array.size_modify]; exact hb),Array.getElem?_modify,if_neg hne]
theorem sortWorldK_size {α : Type} [Inhabited α] {enc : α → List Value} {w : World} {blk off m : Nat} {dk : Array α} {os : Array Obj} : w.heap.size ≤ (Go.Proofs.sortWorldK enc 2 w blk off m dk os).heap.size:=by
 show _ ≤ ((w.heap.modify blk (Go.Sort.onCells (Go.Sort.putCells id off (Go.Sort.flatK enc 2 dk)))) ++ os).size
 rw [Array.size_append,Array.size_modify]; omega
theorem asP_rv {x : V} {κ : K4 → Nat → R} {v : V} {h : Heap} {n : K4} (hx : asP x κ = .rv v h n) : ∃ p o,x = .ptr p o ∧ κ p o = .rv v h n:=by
 obtain ⟨p,o,rfl,e⟩:=asP_good (v:=x) (κ:=κ) (good_of hx)
 exact ⟨p,o,rfl,by rw [← e]; exact hx⟩
theorem brN_rv {c : Bool} {s : String} {r : R} {v : V} {h : Heap} {n : K4} (hx : br c (.fail s) r = .rv v h n) : c = false ∧ r = .rv v h n:=by
 cases c with
 | true=>cases hx
 | false=>exact ⟨rfl,hx⟩
theorem sortK_ok {f g : FuncId} {fn gn : Func} {ty kt et : TypeId} (hf : P.funcs[f]? = some fn) (hb : fn.body.isSome = true) (hn : (fn.name == "runtime.NumGoroutine") = false) (hS : SortFnK P f) (hgf : P.funcs[g]? = some gn) (hgb : gn.body.isSome = true) (hgn : (gn.name == "runtime.NumGoroutine") = false) (hC : CmpFnK P g ty)
  (ht : P.underlying ty = some (.map kt et)) (hp : cKey P kt = some (.ks [.i,.s])) : PrimOK P ρ B f (pSortK g):=by
 intro args h n v h1 n1 hx φ w xs gm hr
 have hg : (pSortK g args h n).good:=good_of hx
 unfold pSortK at hx hg
 obtain ⟨x,l,rfl,q1⟩:=unK_good hg
 rw [q1] at hx hg
 obtain ⟨y,l,rfl,q2⟩:=unK_good hg
 rw [q2] at hx hg
 obtain ⟨rfl,q3⟩:=nlK_good hg
 rw [q3] at hx hg
 obtain ⟨g',caps,rfl,q4⟩:=asFn_good hg
 rw [q4] at hx hg
 obtain ⟨hgg,q5⟩:=br_good hg
 rw [q5] at hx hg
 have hgg:=Nat.eq_of_beq_eq_true hgg
 subst hgg
 obtain ⟨cb,l,rfl,q6⟩:=unK_good hg
 rw [q6] at hx hg
 obtain ⟨rfl,q7⟩:=nlK_good hg
 rw [q7] at hx
 clear q1 q2 q3 q4 q5 q6 q7 hg
 obtain ⟨zb,zo,rfl,hx⟩:=asP_rv hx
 obtain ⟨cs,sup1,pv1,hzb,hx⟩:=obR_rv hx
 obtain ⟨bx,rfl,q⟩:=csL_good (good_of hx)
 rw [q] at hx; clear q
 obtain ⟨u,hu1,hx⟩:=nthK_rv hx
 obtain ⟨lp,lo,rfl,hx⟩:=asP_rv hx
 obtain ⟨cs,sup2,pv2,hlp,hx⟩:=obR_rv hx
 obtain ⟨lx,rfl,q⟩:=csL_good (good_of hx)
 rw [q] at hx; clear q
 obtain ⟨u,hu2,hx⟩:=nthK_rv hx
 obtain ⟨pm,rfl,hx⟩:=asMap_rv hx
 obtain ⟨es,bs,clk,hpm,hx⟩:=mpR_rv hx
 obtain ⟨p,off,len,cap,ex,esz,rfl,hx⟩:=asSl_rv hx
 obtain ⟨hz,hx⟩:=br_rv hx
 obtain ⟨hlen1,hx⟩:=br_rv hx
 obtain ⟨hlen2,hx⟩:=br_rv hx
 obtain ⟨cs3,sup3,pv3,hpp,hx⟩:=obR_rv hx
 obtain ⟨t1,hx⟩:=br_rv hx
 obtain ⟨t2,hx⟩:=br_rv hx
 obtain ⟨t3,hx⟩:=br_rv hx
 obtain ⟨t4,hx⟩:=br_rv hx
 obtain ⟨t5,hx⟩:=brN_rv hx
 obtain ⟨t6,hx⟩:=brN_rv hx
 obtain ⟨hSh,q⟩:=shapeK_good (good_of hx)
 rw [q] at hx; clear q
 rw [forceN_eq] at hx
 obtain ⟨hrg,z,hzl,hza,q⟩:=rangeC_good (good_of hx)
 rw [q] at hx; clear q
 obtain ⟨zs,rfl,q⟩:=csL_good (good_of hx)
 rw [q] at hx; clear q
 obtain ⟨its,rfl,hil,hok,q⟩:=gathK_good hSh (good_of hx)
 rw [q] at hx; clear q
 rw [sortU_eq] at hx
 obtain ⟨hst,q⟩:=strictU_good (good_of hx)
 rw [q] at hx; clear q
 rw [flatK'_eq,storeR_eq] at hx
 obtain ⟨cs4,prev4,zz,hp4,hzz,q⟩:=storeK_good (good_of hx)
 rw [hpp] at hp4
 cases hp4
 rw [q] at hx; clear q
 cases hx
 have hz:=Nat.eq_of_beq_eq_true hz
 subst hz
 have hlen1:=ble_iff.1 hlen1
 have hlen2:=ble_iff.1 hlen2
 have hne1 : zb ≠ p:=fun e=>by rw [K4.beq_iff.2 e.symm] at t5; cases t5
 have hne2 : lp ≠ p:=fun e=>by rw [K4.beq_iff.2 e.symm] at t6; cases t6
 obtain ⟨X,ys,hX,r0,hr⟩:=rels_cons.1 hr
 obtain ⟨Y,ys,rfl,r1,hr⟩:=rels_cons.1 hr
 obtain rfl:=rels_nil.1 hr
 obtain ⟨b,s,tot,o,cap',hφ,rfl,c1,c2,_,c4⟩:=rel_sl r0
 obtain ⟨cbs,rfl,hcb⟩:=rel_fn r1
 obtain ⟨Z,ys,hZ,r2,hcb⟩:=rels_cons.1 hcb
 obtain rfl:=rels_nil.1 hcb
 obtain ⟨bz,sz,tz,hφz,rfl⟩:=rel_ptr r2
 have hcbs : cbs = #[.pointer (some ⟨bz,sz + zo,none⟩)]:=by cases cbs; simp at hZ; simp [hZ]
 subst hcbs
 obtain rfl : xs = #[.slice (some ⟨b,o,none⟩) len cap',.func (.func g') #[] #[.pointer (some ⟨bz,sz + zo,none⟩)]]:=by cases xs; simp at hX; simp [hX]
 have ho:=c4 (by omega)
 obtain ⟨cz,ez,fz,hwz,_,_,_,hcz⟩:=gm.obj zb _ bz sz tz hzb hφz
 obtain ⟨vz,hvz,rz,_⟩:=hcz zo _ hu1
 obtain ⟨bl,sl,tl,hφl,rfl⟩:=rel_ptr rz
 obtain ⟨cl,el,fl,hwl,_,_,_,hcl⟩:=gm.obj lp _ bl sl tl hlp hφl
 obtain ⟨vl,hvl,rl,_⟩:=hcl lo _ hu2
 obtain ⟨bm,sm,tm,hφm,rfl⟩:=rel_map rl
 obtain ⟨ents,hwm,hE,_⟩:=gm.obj pm _ bm sm tm hpm hφm
 obtain ⟨cc,e,fr,hw,htot,hstt,hfr,hcs⟩:=gm.obj p _ b s tot hpp hφ
 have hbw:=(gm.blk p b s tot hφ).2
 have hbz:=(gm.blk zb bz sz tz hφz).2
 have hbl:=(gm.blk lp bl sl tl hφl).2
 have hbm:=(gm.blk pm bm sm tm hφm).2
 have dz : b ≠ bz:=fun e=>by
  subst e
  rcases gm.sep zb p _ _ b sz tz s tot hne1 hzb hpp hφz hφ with h | h
  ·exact notP_iff t1 h
  ·exact notP_iff t3 h
 have dl : b ≠ bl:=fun e=>by
  subst e
  rcases gm.sep lp p _ _ b sl tl s tot hne2 hlp hpp hφl hφ with h | h
  ·exact notP_iff t2 h
  ·exact notP_iff t4 h
 have dm : b ≠ bm:=fun e=>by subst e; rw [hw] at hwm; cases hwm
 -- the elements
 have hit : its ≠ []:=fun e=>by rw [e] at hil; simp at hil; omega
 obtain ⟨x0,hx0⟩:=List.exists_mem_of_ne_nil its hit
 let α:={ x : Itm // x ∈ its }
 haveI : Inhabited α:=⟨⟨x0,hx0⟩⟩
 let enc : α → List Value:=fun x=>x.1.vals
 let cf : α → α → Int:=fun x y=>(x.1.u : Int) - y.1.u
 let d : Array α:=its.attach.toArray
 have hdsz : d.size = len:=by show its.attach.toArray.size = len; simp [hil]
 have hdget : ∀ i (hi : i < its.length),d[i]! = ⟨its[i],List.getElem_mem hi⟩:=fun i hi=>by
  show its.attach.toArray[i]! = _
  rw [getElem!_pos _ i (by simpa using hi)]
  simp
 have hO : Go.Sort.SWO (Go.Proofs.ltOf cf):=by
  have e : ∀ x y : α,Go.Proofs.ltOf cf x y = decide (x.1.u < y.1.u):=fun x y=>by
   show decide ((x.1.u : Int) - y.1.u < 0) = _
   exact decide_eq_decide.2 (by omega)
  exact ⟨fun x=>by rw [e]; simp,fun x y z h1 h2=>by rw [e] at *; simp at *; omega,fun x y z h1 h2=>by rw [e] at *; simp at *; omega⟩
 have hcell : ∀ j,j < 2 * len → ∃ V',(flatI its)[j]? = some V':=fun j hj=>by
  have : j < (flatI its).length:=by rw [flatI_len,hil]; exact hj
  exact ⟨_,List.getElem?_eq_getElem this⟩
 have hval : ∀ i,i < len → cc[s + (off + 2 * i)]? = some (.int .u32 ((d[i]!).1.t : Int)) ∧ cc[s + (off + (2 * i + 1))]? = some (.string ⟨(decL (d[i]!).1.m (d[i]!).1.c).toArray⟩):=fun i hi=>by
  have hi' : i < its.length:=by omega
  have hxi : its[i]? = some its[i]:=List.getElem?_eq_getElem hi'
  have hm : its[i] ∈ its:=List.getElem_mem hi'
  obtain ⟨k1,k2,k3,k4⟩:=hok _ hm
  obtain ⟨f1,f2⟩:=flatI_get hxi
  rw [hdget i hi']
  have a1 : (Cs.l (flatI its)).at (2 * i) = some (.int .u32 its[i].t):=f1
  have a2 : (Cs.l (flatI its)).at (2 * i + 1) = some (.str its[i].m its[i].c):=f2
  rw [hza _ (by show 2 * i < len * 2; omega)] at a1
  rw [hza _ (by show 2 * i + 1 < len * 2; omega)] at a2
  obtain ⟨v1,g1,g2,_⟩:=hcs _ _ a1
  obtain ⟨v2,g3,g4,_⟩:=hcs _ _ a2
  exact ⟨by rw [Itm.rel_t k1 g2] at g1; exact g1,by rw [Itm.rel_s k2 g4] at g3; exact g3⟩
 have hH : Go.Sort.HoldsK enc 2 w b o d:=by
  intro j hj
  rw [Go.Sort.size_flatK,hdsz] at hj
  have hj2 : j / 2 < len:=by omega
  rw [Go.Sort.get_flatK enc 2 d j (by rw [hdsz]; exact hj)]
  obtain ⟨v1,v2⟩:=hval (j / 2) hj2
  refine ⟨?_,?_⟩
  ·simp only [World.cell?,hw]
   show cc[o + j]? = some (id ((d[j / 2]!).1.vals[j % 2]!))
   rw [ho.1]
   rcases (by omega : j % 2 = 0 ∨ j % 2 = 1) with hm | hm
   ·rw [hm,show s + off + j = s + (off + 2 * (j / 2)) by omega,v1]; rfl
   ·rw [hm,show s + off + j = s + (off + (2 * (j / 2) + 1)) by omega,v2]; rfl
  ·simp only [World.frozen?,hw]
   rcases hfr with e | e
   ·cases fr; simp only at e; subst e; simp
   ·cases fr; simp only at e; simp; omega
 have hcmp : Go.Proofs.CmpLays P g' #[.pointer (some ⟨bz,sz + zo,none⟩)] enc 2 cf b o d.size w:=by
  intro m os dk hdk x y
  obtain ⟨k1,k2,k3,k4⟩:=hok x.1 x.2
  obtain ⟨j1,j2,j3,j4⟩:=hok y.1 y.2
  have lx:=look_is (P:=P) ht hp hSh k4 (ρ:=ρ) (φ:=φ) (Itm.rel_key k1 k2) (clk:=clk) (bm:=bm) hE
  have ly:=look_is (P:=P) ht hp hSh j4 (ρ:=ρ) (φ:=φ) (Itm.rel_key j1 j2) (clk:=clk) (bm:=bm) hE
  rw [dec_nonneg (by simp only [Hk]; omega)] at lx ly
  have hW : ∀ b',b' < w.heap.size → b ≠ b' → (Go.Proofs.sortWorldK enc 2 w b o m dk os).heap[b']? = w.heap[b']?:=fun b' h1 h2=>sortWorldK_heap h1 h2
  have hsz:=sortWorldK_size (enc:=enc) (w:=w) (blk:=b) (off:=o) (m:=m) (dk:=dk) (os:=os)
  exact hC bz (sz + zo) bl (sl + lo) bm (.map ents clk) _ _ _ _ x.1.u y.1.u _ (by simp only [World.cell?,hW bz hbz dz,hwz]; exact hvz) (by simp only [World.cell?,hW bl hbl dl,hwl]; exact hvl) (by rw [hW bm hbm dm]; exact hwm)
   (by omega) (by omega) (by omega) lx ly k3 j3
 obtain ⟨cd,hcd⟩:=Option.isSome_iff_exists.1 hb
 obtain ⟨gd,hgd⟩:=Option.isSome_iff_exists.1 hgb
 have eg : ∀ args w,(callFunc g' args).run P w = .ok (.enter g' args) w:=fun args w=>by
  have hn' : gn.name ≠ "runtime.NumGoroutine":=by simpa using hgn
  simp [callFunc,hgf,hn',hgd]
 have HS:=hS α enc (fun x=>rfl) (fun x v hv=>by
  have hv : v ∈ x.1.vals:=hv
  simp [Itm.vals] at hv
  rcases hv with rfl | rfl <;> rfl) cf hO g' #[.pointer (some ⟨bz,sz + zo,none⟩)] b o cap' d w eg hcmp hH hbw (by rw [hdsz]; omega)
 rw [hdsz] at HS
 refine runs_of_calls hf hcd hn (HS.mono fun e w' ⟨he,d',k,os,hperm,hsort,hw'⟩=>⟨_,he,φ,?_⟩)
 subst hw'
 -- what is there now
 have hd'sz : d'.size = len:=by rw [hperm.1,hdsz]
 have hys : d'.toList.map (·.1) = sortUL its:=by
  have p1 : (d'.toList.map (·.1)).Perm its:=by
   have h3:=hperm.2.2
   have e1 : (d'.extract 0 len) = d':=by rw [← hd'sz]; simp
   have e2 : (d.extract 0 len) = d:=by rw [← hdsz]; simp
   rw [e1,e2] at h3
   have:=h3.map (·.1)
   have e3 : d.toList.map (·.1) = its:=by show its.attach.toArray.toList.map (·.1) = its; simp
   rw [e3] at this; exact this
  refine sorted_one hst (sortUL_perm its) p1 ?_
  refine List.pairwise_map.2 (List.pairwise_iff_getElem.2 fun i j hi hj hij=>?_)
  have hi' : i < d'.size:=by simpa using hi
  have hj' : j < d'.size:=by simpa using hj
  have:=hsort i j (Nat.zero_le _) hij (by omega)
  rw [getElem!_pos _ i hi',getElem!_pos _ j hj'] at this
  have this : decide ((d'[j].1.u : Int) - d'[i].1.u < 0) = false:=this
  simp at this
  simp only [Array.getElem_toList]
  omega
 have hd'get : ∀ i (hi : i < len),∃ x,(sortUL its)[i]? = some x ∧ (d'[i]!).1 = x ∧ x ∈ its:=fun i hi=>by
  have hi' : i < d'.size:=by omega
  refine ⟨(d'[i]!).1,?_,rfl,(d'[i]!).2⟩
  rw [← hys,List.getElem?_map,Array.getElem?_toList,Array.getElem?_eq_getElem hi',getElem!_pos _ i hi']; rfl
 have hsl : (sortUL its).length = len:=by rw [(sortUL_perm its).length_eq,hil]
 rw [show o = s + off from ho.1]
 obtain ⟨g2,f2⟩:=put_rowV gm hpp hφ hzz (d:=Go.Sort.flatK enc 2 d') (by rw [Go.Sort.size_flatK,hd'sz]; show len * 2 = (flatI (sortUL its)).length; rw [flatI_len,hsl]; omega) (fun j u hu=>by
  have hu : (flatI (sortUL its))[j]? = some u:=hu
  have hj : j < 2 * len:=by
   have:=(List.getElem?_eq_some_iff.1 hu).1
   rw [flatI_len,hsl] at this; exact this
  rw [Go.Sort.get_flatK enc 2 d' j (by rw [hd'sz]; omega)]
  obtain ⟨x,hx1,hx2,hx3⟩:=hd'get (j / 2) (by omega)
  obtain ⟨k1,k2,_,_⟩:=hok x hx3
  obtain ⟨f1,f2⟩:=flatI_get hx1
  show rel ρ φ u ((d'[j / 2]!).1.vals[j % 2]!) ∧ ((d'[j / 2]!).1.vals[j % 2]!).oneCell' = true
  rw [hx2]
  rcases (by omega : j % 2 = 0 ∨ j % 2 = 1) with hm | hm
  ·rw [show 2 * (j / 2) = j by omega] at f1
   rw [f1] at hu
   cases hu
   rw [hm]
   exact ⟨Itm.rel_t' k1,rfl⟩
  ·rw [show 2 * (j / 2) + 1 = j by omega] at f2
   rw [f2] at hu
   cases hu
   rw [hm]
   exact ⟨Itm.rel_s' k2,rfl⟩) k os
 exact ⟨f2,g2,rel_unit⟩
end
end Go.Ev

namespace Go.Ev
set_option linter.unusedVariables false
set_option maxRecDepth 100000
open Go.RowKit
def pSortKN (g : Nat) : Prim:=fun args h n=>unK args fun x l=>asSl x (unK l fun y l=>nlK l (.rv (.tup []) h n)) fun _ _ _ _ _ _=>pSortK g args h n
def SortNilK (P : Program) (f : FuncId) : Prop:=∀ (p : Option Addr) (cap : Nat) (fv : Value) (w : World),Calls P f #[.slice p 0 cap,fv] w fun e w'=>e = .returned (.tuple #[]) ∧ w' = w
theorem sortKN_ok {P : Program} {ρ : Env} {B : Nat} {f g : FuncId} {fn gn : Func} {ty kt et : TypeId} (hf : P.funcs[f]? = some fn) (hb : fn.body.isSome = true) (hn : (fn.name == "runtime.NumGoroutine") = false) (hS : SortFnK P f) (hN : SortNilK P f) (hgf : P.funcs[g]? = some gn) (hgb : gn.body.isSome = true) (hgn : (gn.name == "runtime.NumGoroutine") = false) (hC : CmpFnK P g ty)
  (ht : P.underlying ty = some (.map kt et)) (hp : cKey P kt = some (.ks [.i,.s])) : PrimOK P ρ B f (pSortKN g):=by
 intro args h n v h1 n1 hx φ w xs gm hr
 have hg : (pSortKN g args h n).good:=good_of hx
 unfold pSortKN at hx hg
 obtain ⟨x,l,rfl,q1⟩:=unK_good hg
 rw [q1] at hx hg
 rcases asSl_good hg with ⟨rfl,q4⟩ | ⟨p,off,len,cap,ex,esz,rfl,q4⟩
 ·rw [q4] at hx hg
  obtain ⟨y,l,rfl,q2⟩:=unK_good hg
  rw [q2] at hx hg
  obtain ⟨rfl,q3⟩:=nlK_good hg
  rw [q3] at hx
  cases hx
  obtain ⟨X,ys,hX,r0,hr⟩:=rels_cons.1 hr
  obtain ⟨Y,ys,rfl,r1,hr⟩:=rels_cons.1 hr
  obtain rfl:=rels_nil.1 hr
  have e0:=rel_nil r0
  obtain rfl : xs = #[.slice none 0 0,Y]:=by cases xs; simp at hX; simp [hX,e0,nilOf]
  obtain ⟨cd,hcd⟩:=Option.isSome_iff_exists.1 hb
  exact runs_of_calls hf hcd hn ((hN none 0 Y w).mono fun e w' ⟨he,hw⟩=>⟨_,he,φ,by subst hw; exact ⟨Fr.refl h φ n _,gm,rel_unit⟩⟩)
 ·rw [q4] at hx
  exact sortK_ok hf hb hn hS hgf hgb hgn hC ht hp _ h n v h1 n1 hx φ w xs gm hr
section
variable {h : Heap} {n n' p : K4}
theorem app2_nil_at {a b : V} {κ : KV} (hn : ∀ k : K4 → R,n.nx k = k n') (hp : hget p h = some (.c (.l [a,b]) false none)) :
  v_app 2 24 (.nil .sl) (.sl p 0 1 1 true 2) h n κ = κ (.sl n 0 1 1 false 2) (hputS n h (some (.c (.l [a,b]) false none))) n':=by
 show obK p h (fun cs _ _=>forceN (Nat.mul 1 2) fun m=>rangeC cs 0 m fun y=>appendR 2 24 (.nil .sl) 1 y h n κ) = _
 rw [obK_at hp,forceN_eq]
 show newR h n (.c (.l [a,b]) false none) (fun h' n'=>κ (.sl n 0 1 1 false 2) h' n') = _
 rw [newR_at hn]
theorem app2_sl_at {q : K4} {xs : List V} {k : Nat} {prev : Option K4} {a b : V} {κ : KV} (hn : ∀ k : K4 → R,n.nx k = k n') (hp : hget p h = some (.c (.l [a,b]) false none)) (hq : hget q h = some (.c (.l xs) false prev)) (hx : xs.length = 2 * k) (hl : k ≤ 1000000000) :
  v_app 2 24 (.sl q 0 k k false 2) (.sl p 0 1 1 true 2) h n κ =
   κ (.sl n 0 (k + 1) (k + 1) false 2) (hputS n (hputS q (killS prev h) (some (.c (.l xs) true none))) (some (.c (.l (xs ++ [a,b])) false (some q)))) n':=by
 show obK p h (fun cs _ _=>forceN (Nat.mul 1 2) fun m=>rangeC cs 0 m fun y=>appendR 2 24 (.sl q 0 k k false 2) 1 y h n κ) = _
 rw [obK_at hp,forceN_eq]
 show forceN (Nat.add k 1) (fun need=>br (Nat.ble need k) _ _) = _
 rw [forceN_eq]
 have h1 : Nat.ble (Nat.add k 1) k = false:=ble_false (by show k < k + 1; omega)
 have h2 : Nat.ble (Nat.mul (Nat.add (Nat.mul 4 (Nat.add k 1)) 4096) 24) 281474976710656 = true:=ble_iff.2 (by show (4 * (k + 1) + 4096) * 24 ≤ 281474976710656; omega)
 rw [h1,h2]
 show obR q h _ = _
 rw [obR_at hq,forceN_eq,show Nat.mul k 2 = xs.length by show k * 2 = _; omega,rangeC_at]
 show appK xs [a,b] (fun zs=>_) = _
 rw [appK_eq]
 show forceN (Nat.add 0 xs.length) (fun j=>rangeC (.l xs) 0 j _) = _
 rw [forceN_eq,show Nat.add 0 xs.length = xs.length by show 0 + xs.length = _; omega,rangeC_at,killK_eq]
 show hput q (killS prev h) (some (.c (.l xs) true none)) _ = _
 rw [hput_eq,newR_at hn]
theorem v_st1_sl {x : V} {q : K4} {a b c : Nat} {ex : Bool} {esz : Nat} {κ : Heap → R} (hp : hget p h = some (.c (.l [x]) false none)) : v_st1 (.ptr p 0) (.sl q a b c ex esz) h κ = κ (hputS p h (some (.c (.l [.sl q a b c ex esz]) false none))):=by
 show s1K h p 0 (.sl q a b c ex esz) κ = _
 rw [s1K_eq,storeR_eq]
 unfold storeK
 rw [obK_at hp,br_false,splC_all (xs:=[x]) (ys:=[.sl q a b c ex esz]) rfl,killK_eq,hput_eq]; rfl
theorem part2_at {a b x y : V} {κ : List V → R} : v_part 0 2 (.agg [a,b]) [x,y] κ = κ [a,b]:=rfl
theorem tcallK_to {κ : KV} {Φ : R → Prop} : ∀ {r : R},r.sat (fun x=>∃ v h n,x = .rv v h n ∧ (κ v h n).sat Φ) → (tcallK r κ).sat Φ
 | .fail _,h=>h.elim
 | .both a b,h=>⟨tcallK_to h.1,tcallK_to h.2⟩
 | .ok _ _ _ _,h=>by obtain ⟨v,h,n,e,_⟩:=h; cases e
 | .rv _ _ _,h=>by obtain ⟨v,h,n,e,hs⟩:=h; cases e; exact hs
end
def uOf (es : List (V × V)) (t m c : Nat) : Nat:=match lookF t m c es with
 | some (.int _ u)=>u
 | _=>0
def itmE (es : List (V × V)) (e : V × V) : Itm:=match e.1 with
 | .agg [.int _ t,.str m c]=>⟨uOf es t m c,t,m,c⟩
 | _=>⟨0,0,0,0⟩
theorem itmE_at {es : List (V × V)} {k : IntKind} {t m c : Nat} {x : V} : itmE es (.agg [.int k t,.str m c],x) = ⟨uOf es t m c,t,m,c⟩:=rfl
def flatEK (es : List (V × V)) : (List V → R) → R :=
 @List.rec (V × V) (fun _=>(List V → R) → R) (fun κ=>κ []) (fun e _ ih κ=>@Prod.rec V V (fun _=>R) (fun k _=>asAgg k fun l=>ih fun zs=>appK l zs κ) e) es
theorem flatEK_eq {es0 : List (V × V)} : ∀ {es : List (V × V)} {κ : List V → R},(∀ e ∈ es,Shaped e) → flatEK es κ = κ (flatI (es.map (itmE es0)))
 | [],κ,_=>rfl
 | (k,x) :: es,κ,hS=>by
  obtain ⟨t,m,c,hc,hk⟩:=hS (k,x) (List.mem_cons_self ..)
  have hk : k = .agg [.int .u32 t,.str m c]:=hk
  subst hk
  show flatEK es (fun zs=>appK [.int .u32 t,.str m c] zs κ) = _
  rw [flatEK_eq (es0:=es0) fun e he=>hS e (List.mem_cons_of_mem _ he),appK_eq]
  rfl
theorem flatI_inj {es : List (V × V)} : ∀ {A C : List Itm},flatI A = flatI C → (∀ a ∈ A,a.u = uOf es a.t a.m a.c) → (∀ a ∈ C,a.u = uOf es a.t a.m a.c) → A = C
 | [],[],_,_,_=>rfl
 | [],c :: C,h,_,_=>by cases h
 | a :: A,[],h,_,_=>by cases h
 | a :: A,c :: C,h,hA,hC=>by
  have h9 : V.int .u32 a.t :: V.str a.m a.c :: flatI A = V.int .u32 c.t :: V.str c.m c.c :: flatI C:=h
  clear h
  have h1:=hA a (List.mem_cons_self ..)
  have h2:=hC c (List.mem_cons_self ..)
  obtain ⟨u,t,m,cc⟩:=a
  obtain ⟨u',t',m',c'⟩:=c
  simp only [List.cons.injEq,V.int.injEq,V.str.injEq] at h9
  obtain ⟨⟨_,rfl⟩,⟨rfl,rfl⟩,h9⟩:=h9
  simp only at h1 h2
  rw [h1,h2,flatI_inj h9 (fun a' ha=>hA a' (List.mem_cons_of_mem _ ha)) fun a' ha=>hC a' (List.mem_cons_of_mem _ ha)]
theorem itm_u {es : List (V × V)} {x : Itm} (h : ItmOK es x) : x.u = uOf es x.t x.m x.c:=by
 obtain ⟨_,_,_,h⟩:=h
 unfold uOf
 rw [h]
theorem itmE_u {es : List (V × V)} {e : V × V} (h : Shaped e) : (itmE es e).u = uOf es (itmE es e).t (itmE es e).m (itmE es e).c:=by
 obtain ⟨t,m,c,hc,hk⟩:=h
 obtain ⟨k,x⟩:=e
 have hk : k = .agg [.int .u32 t,.str m c]:=hk
 subst hk; rfl
theorem gathK_at {es : List (V × V)} (hS : ∀ e ∈ es,Shaped e) : ∀ {ks : List Itm} {κ : List Itm → R},(∀ x ∈ ks,ItmOK es x) → gathK es ks.length (flatI ks) κ = κ ks
 | [],κ,_=>rfl
 | ⟨u,t,m,c⟩ :: ks,κ,h=>by
  obtain ⟨h1,h2,h3,h4⟩:=h _ (List.mem_cons_self ..)
  show br (kbeq .u32 .u32) (br (Nat.ble (Nat.succ t) 4294967296) (br (Nat.ble (Nat.succ c) (Nat.pow 256 m))
   (lookK (.ks [.i,.s]) (.agg [.int .u32 t,.str m c]) es (fun r=>asI r fun k u=>br (kbeq k .i64) (br (Nat.ble (Nat.succ u) 4611686018427387904) (gathK es ks.length (flatI ks) fun zs=>κ (⟨u,t,m,c⟩ :: zs)) (.fail "a great number")) (.fail "kinds")) (.fail "absent")) (.fail "a text")) (.fail "a number")) (.fail "kinds") = _
  rw [kbeq_iff.2 rfl,br_true,ble_iff.2 h1,br_true,ble_iff.2 (show Nat.succ c ≤ Nat.pow 256 m from h2),br_true,lookK_at hS,h4]
  show br (kbeq .i64 .i64) (br (Nat.ble (Nat.succ u) 4611686018427387904) (gathK es ks.length (flatI ks) fun zs=>κ (⟨u,t,m,c⟩ :: zs)) (.fail "a great number")) (.fail "kinds") = _
  rw [kbeq_iff.2 rfl,br_true,ble_iff.2 h3,br_true,gathK_at hS fun x hx=>h x (List.mem_cons_of_mem _ hx)]
theorem shapeK_at : ∀ {es : List (V × V)} {κ : R},(∀ e ∈ es,Shaped e) → shapeK es κ = κ
 | [],κ,_=>rfl
 | (k,x) :: es,κ,h=>by
  obtain ⟨t,m,c,hc,hk⟩:=h (k,x) (List.mem_cons_self ..)
  have hk : k = .agg [.int .u32 t,.str m c]:=hk
  subst hk
  show br (kbeq .u32 .u32) (br (Nat.ble (Nat.succ c) (Nat.pow 256 m)) (shapeK es κ) (.fail "a text")) (.fail "kinds") = _
  rw [kbeq_iff.2 rfl,br_true,ble_iff.2 (show Nat.succ c ≤ Nat.pow 256 m from hc),br_true,shapeK_at fun e he=>h e (List.mem_cons_of_mem _ he)]
theorem asSl_sl {p : K4} {off len cap esz : Nat} {ex : Bool} {κ0 : R} {κ : K4 → Nat → Nat → Nat → Bool → Nat → R} : asSl (.sl p off len cap ex esz) κ0 κ = κ p off len cap ex esz:=rfl
theorem pSortK_at {g : Nat} {h : Heap} {n q cz lp pm : K4} {co lo clk : Nat} {cx lx : List V} {s1 s2 : Bool} {es : List (V × V)} {bs : List Nat} {ks : List Itm} {prev : Option K4}
  (hcz : hget cz h = some (.c (.l cx) s1 none)) (hco : cx[co]? = some (.ptr lp lo)) (hlp : hget lp h = some (.c (.l lx) s2 none)) (hlo : lx[lo]? = some (.map pm)) (hpm : hget pm h = some (.m es bs clk)) (hq : hget q h = some (.c (.l (flatI ks)) false prev))
  (hk0 : ks ≠ []) (hbig : ks.length ≤ 1000000) (hp1 : notP prev cz = true) (hp2 : notP prev lp = true) (hq1 : q ≠ cz) (hq2 : q ≠ lp) (hS : ∀ e ∈ es,Shaped e) (hok : ∀ x ∈ ks,ItmOK es x) (hst : (sortUL ks).Pairwise fun a b=>a.u < b.u) :
  pSortK g [.sl q 0 ks.length ks.length false 2,.fn g [.ptr cz co]] h n = .rv (.tup []) (hputS q (killS prev h) (some (.c (.l (flatI (sortUL ks))) false none))) n:=by
 have hl1 : 1 ≤ ks.length:=by
  cases ks with
  | nil=>exact absurd rfl hk0
  | cons=>simp
 have hbq : ∀ {p r : K4},p ≠ r → K4.beq p r = false:=fun {p r} hne=>by
  cases hb : K4.beq p r with
  | false=>rfl
  | true=>exact absurd (K4.beq_iff.1 hb) hne
 show br (Nat.beq g g) (obR cz h _) (.fail "another closure") = _
 rw [Nat.beq_refl,br_true,obR_at hcz]
 show nthK co cx _ = _
 rw [nthK_some hco]
 show obR lp h _ = _
 rw [obR_at hlp]
 show nthK lo lx _ = _
 rw [nthK_some hlo]
 show mpR pm h _ = _
 rw [mpR_at hpm]
 rw [asSl_sl,Nat.beq_refl,br_true,ble_iff.2 hl1,br_true,ble_iff.2 hbig,br_true,obR_at hq]
 rw [show notP none q = true from rfl,br_true,br_true,hp1,br_true,hp2,br_true,hbq hq1,br_false,hbq hq2,br_false,shapeK_at hS,forceN_eq]
 have hfl : Nat.mul ks.length 2 = (flatI ks).length:=by rw [flatI_len]; show ks.length * 2 = _; omega
 rw [hfl,rangeC_at]
 show gathK es ks.length (flatI ks) _ = _
 rw [gathK_at hS hok,sortU_eq,strictU_of hst,flatK'_eq,storeR_eq]
 unfold storeK
 rw [obK_at hq,br_false,splC_all (xs:=flatI ks) (ys:=flatI (sortUL ks)) (by rw [flatI_len,flatI_len,(sortUL_perm ks).length_eq]),killK_eq,hput_eq]
def rdA2 : Rd:=fun c q x h n=>v_alc (.l [(.int .u32 0),(.str 0 0)]) h n fun z1 h n=>v_st 2 z1 x h fun h=>v_ld q h fun z2=>v_ldn 2 z1 h fun z3=>v_part 0 2 z3 [(.int .u32 0),(.str 0 0)] fun z4=>v_bsl false 1 2 z4 h n fun z5 h n=>v_app 2 24 z2 z5 h n fun z6 h n=>v_st1 q z6 h fun h=>.rv (.bool true) h n
def mkR (c : CF2) (z4 : V) (t : S) (h : Heap) (n : K4) : R :=
 entK' z4 h n fun z7 h n=>v_ext 0 z7 fun z8=>v_alc (.l [(iW 0),(.str 0 0)]) h n fun z9 h n=>v_st 2 z9 z8 h fun h=>g0 t fun za=>v_ldn 2 z9 h fun zb=>dclK c za [zb] h n fun zc h n=>v_not zc fun zd=>vif zd (rT t h n)<|nR t h n
def mkB (c : CF2) : S → Heap → K4 → R:=fun t h n=>g2 t fun z4=>nxtK z4 h n fun z5 h n=>v_ext 0 z5 fun z6=>vif z6 (blockX 1 (mkR c z4 t h n) fun t h n=>nR t h n)<|.ok (.exit 0) t h n
def mkeysE : Ent:=.code (fun l k=>unK l fun a0 l=>unK l fun a1 l=>nlK l<|k (.mk (.mk a0 a1 U U) Q0 Q0 Q0 Q0 Q0 Q0 Q0))
 (fun c t h n=>g1 t fun z1=>v_ld z1 h fun z2=>rngK z2 h n fun z3 h n=>blockX 0 (w2 t z3 fun t=>loopX (mkB c) t h n) fun t h n=>nR t h n) (fun t h n=>.rv (.tup []) h n)
def collE (ka : K3) : Ent:=.code (fun l k=>unK l fun a0 l=>nlK l<|k (.mk (.mk a0 U U U) Q0 Q0 Q0 Q0 Q0 Q0 Q0))
 (fun c t h n=>g0 t fun z1=>tcallK (c ka [(.nil .sl),z1] h n) fun z2 h n=>w1 t z2 fun t=>rT t h n) (fun t h n=>g1 t fun a0=>.rv a0 h n)
def sortedE (kc ks : K3) : Ent:=.code (fun l k=>unK l fun a0 l=>unK l fun a1 l=>nlK l<|k (.mk (.mk a0 a1 U U) Q0 Q0 Q0 Q0 Q0 Q0 Q0))
 (fun c t h n=>g0 t fun z1=>tcallK (c kc [z1] h n) fun z2 h n=>g1 t fun z3=>v_call (c ks [z2,z3] h n) fun z4 h n=>w2 t z2 fun t=>rT t h n) (fun t h n=>g2 t fun a0=>.rv a0 h n)
def aT (y zb : K4) (zo : Nat) (it : K4) : S:=.mk (.mk (.oth (.yl y)) (.ptr zb zo) (.ptr it 0) U) Q0 Q0 Q0 Q0 Q0 Q0 Q0
def Lsa (it : K4) (h : Heap) (n : K4) (ss : List Itm) (L : V) : Prop :=
 (ss = [] ∧ L = .nil .sl) ∨ (ss ≠ [] ∧ ∃ q prev,L = .sl q 0 ss.length ss.length false 2 ∧ hget q h = some (.c (.l (flatI ss)) false prev) ∧ it.toN < q.toN ∧ q.toN < n.toN ∧ ∀ r,prev = some r → it.toN < r.toN ∧ r ≠ q)
theorem Lsa.mono {it n n' : K4} {h h' : Heap} {ss : List Itm} {L : V} (l : Lsa it h n ss L) (hn : n.toN ≤ n'.toN) (hh : ∀ p,it.toN < p.toN → p.toN < n.toN → hget p h' = hget p h) : Lsa it h' n' ss L:=by
 rcases l with l | ⟨h0,q,prev,h1,h2,h3,h4,h5⟩
 ·exact .inl l
 ·exact .inr ⟨h0,q,prev,h1,by rw [hh q h3 h4]; exact h2,h3,by omega,h5⟩
theorem flatI_app (A C : List Itm) : flatI (A ++ C) = flatI A ++ flatI C:=by simp [flatI]
theorem app2_step {it n n' p : K4} {h : Heap} {ss : List Itm} {i : Itm} {L : V} (hn : ∀ k : K4 → R,n.nx k = k n') (hn' : n'.toN = n.toN + 1) (hit : it.toN < n.toN) (hp : hget p h = some (.c (.l [.int .u32 i.t,.str i.m i.c]) false none)) (hl : Lsa it h n ss L) (hss : ss.length ≤ 1000000000) :
  ∃ q k h',(∀ κ,v_app 2 24 L (.sl p 0 1 1 true 2) h n κ = κ (.sl q 0 k k false 2) h' n') ∧ (∀ r,r.toN ≤ it.toN → hget r h' = hget r h) ∧ Lsa it h' n' (ss ++ [i]) (.sl q 0 k k false 2):=by
 rcases hl with ⟨h0,hL⟩ | ⟨h0,q,prev,hL,hq',hq0,hqn,hpr⟩
 ·subst h0 hL
  refine ⟨n,1,_,fun κ=>app2_nil_at hn hp,fun r hr=>?_,.inr ⟨by simp,n,none,rfl,?_,hit,by omega,fun r hr=>by cases hr⟩⟩
  ·rw [hget_hputS_ne _ _ (ne_of_lt (by omega : r.toN < n.toN)).symm]
  ·rw [hget_hputS_same]; rfl
 ·subst hL
  refine ⟨n,ss.length + 1,_,fun κ=>app2_sl_at hn hp hq' (flatI_len ss) hss,fun r hr=>?_,.inr ⟨by simp,n,some q,by simp,?_,hit,by omega,fun r hr=>?_⟩⟩
  ·rw [hget_hputS_ne _ _ (ne_of_lt (by omega : r.toN < n.toN)).symm,hget_hputS_ne _ _ (ne_of_lt (by omega : r.toN < q.toN)).symm]
   cases hprev : prev with
   | none=>rfl
   | some r'=>exact hget_hputS_ne _ _ (ne_of_lt (by have:=(hpr r' hprev).1; omega : r.toN < r'.toN)).symm
  ·rw [hget_hputS_same,flatI_app]; rfl
  ·cases hr
   exact ⟨hq0,ne_of_lt hqn⟩
theorem hgetR_at {p : K4} {h : Heap} {κ : OOb → R} : hgetR p h κ = κ (hget p h):=hgetR_eq _ _ _
section
variable {hb h : Heap} {n pm y bx it zb : K4} {zo clk : Nat} {es : List (V × V)} {bs : List Nat} {T : FC} {fA : FuncId} {its : List Nat} {mm : Nat}
theorem mkR_step {L : V} {ss : List Itm} {seen : List Nat} {e : V × V} {b i : Nat} (hA : tabG (fnKey fA) T = some (.ap fA its rdA2)) (hit : hget it h = some (.it pm clk (b :: seen) clk)) (hm : hget pm h = some (.m es bs clk)) (hy : hget y h = some (.lp fA bx)) (hbx : hget bx h = some (.c (.l [L]) false none))
  (he : es[i]? = some e) (hb : bs[i]? = some b) (hnd : bs.Nodup) (hS : Shaped e) (hpb : pm.toN < bx.toN) (hby : bx.toN < y.toN) (hyi : y.toN < it.toN) (hin : it.toN < n.toN) (hl : Lsa it h n ss L) (hss : ss.length ≤ 1000000000) (hN : n.toN + 4 ≤ 65535) :
  ∃ h' L' n',mkR (call2 T (mm + 1)) (.ptr it 0) (aT y zb zo it) h n = nR (aT y zb zo it) h' n' ∧ n'.toN = n.toN + 4 ∧ (∀ p,p.toN ≤ it.toN → p ≠ bx → hget p h' = hget p h) ∧ hget bx h' = some (.c (.l [L']) false none) ∧ Lsa it h' n' (ss ++ [itmE es e]) L':=by
 obtain ⟨n1,hn1,hx1⟩:=K4.nx_u n (by omega)
 obtain ⟨n2,hn2,hx2⟩:=K4.nx_u n1 (by omega)
 obtain ⟨n3,hn3,hx3⟩:=K4.nx_u n2 (by omega)
 obtain ⟨n4,hn4,hx4⟩:=K4.nx_u n3 (by omega)
 obtain ⟨t,m,c,hc,hk⟩:=hS
 obtain ⟨k,x⟩:=e
 have hk : k = .agg [.int .u32 t,.str m c]:=hk
 subst hk
 have hfirst : ∀ j,j < i → bs[j]? ≠ some b:=fun j hj e=>by
  obtain ⟨l1,e1⟩:=List.getElem?_eq_some_iff.1 e
  obtain ⟨l2,e2⟩:=List.getElem?_eq_some_iff.1 hb
  exact List.pairwise_iff_getElem.1 hnd j i l1 l2 hj (e1.trans e2.symm)
 have ent : ∀ κ : KV,entK' (.ptr it 0) h n κ = κ (.tup [.agg [.int .u32 t,.str m c],x]) h n:=fun κ=>by
  show itR it h (.fail "entry") _ = _
  rw [itR_at hit]
  show mpR pm h _ = _
  rw [mpR_at hm]
  show br (Nat.beq clk clk) (findB b es bs fun k x=>κ (.tup [k,x]) h n) (.fail "an insertion") = _
  rw [Nat.beq_refl,br_true,findB_at he hb hfirst]
 -- the key in a box
 obtain ⟨h1,eh1⟩ : ∃ h1,h1 = hputS n (hputS n h (some (.c (.l [iW 0,.str 0 0]) false none))) (some (.c (.l [.int .u32 t,.str m c]) false none)):=⟨_,rfl⟩
 have g1 : hget n h1 = some (.c (.l [.int .u32 t,.str m c]) false none):=by rw [eh1,hget_hputS_same]
 have g1' : ∀ p,p ≠ n → hget p h1 = hget p h:=fun p hp=>by rw [eh1,hget_hputS_ne _ _ hp.symm,hget_hputS_ne _ _ hp.symm]
 -- the record is taken
 obtain ⟨h2,eh2⟩ : ∃ h2,h2 = hputS y h1 none:=⟨_,rfl⟩
 have g2' : ∀ p,p ≠ y → hget p h2 = hget p h1:=fun p hp=>by rw [eh2,hget_hputS_ne _ _ hp.symm]
 -- the key in a box of the round's own
 obtain ⟨h3,eh3⟩ : ∃ h3,h3 = hputS n1 (hputS n1 h2 (some (.c (.l [.int .u32 0,.str 0 0]) false none))) (some (.c (.l [.int .u32 t,.str m c]) false none)):=⟨_,rfl⟩
 have g3 : hget n1 h3 = some (.c (.l [.int .u32 t,.str m c]) false none):=by rw [eh3,hget_hputS_same]
 have g3' : ∀ p,p ≠ n1 → hget p h3 = hget p h2:=fun p hp=>by rw [eh3,hget_hputS_ne _ _ hp.symm,hget_hputS_ne _ _ hp.symm]
 obtain ⟨h4,eh4⟩ : ∃ h4,h4 = hputS n2 h3 (some (.c (.l [.int .u32 t,.str m c]) false none)):=⟨_,rfl⟩
 have g4 : hget n2 h4 = some (.c (.l [.int .u32 t,.str m c]) false none):=by rw [eh4,hget_hputS_same]
 have g4' : ∀ p,p ≠ n2 → hget p h4 = hget p h3:=fun p hp=>by rw [eh4,hget_hputS_ne _ _ hp.symm]
 have old : ∀ p,p.toN < n.toN → p ≠ y → hget p h4 = hget p h:=fun p hp hpy=>by
  rw [g4' p (ne_of_lt (by omega)),g3' p (ne_of_lt (by omega)),g2' p hpy,g1' p (ne_of_lt hp)]
 have hbx4 : hget bx h4 = some (.c (.l [L]) false none):=by rw [old bx (by omega) (ne_of_lt hby)]; exact hbx
 have hl4 : Lsa it h4 n3 ss L:=hl.mono (by omega) fun p hp1 hp2=>old p hp2 (ne_of_lt (by omega : y.toN < p.toN)).symm
 obtain ⟨q,k,h5,happ,hfr,hl5⟩:=app2_step (i:=⟨uOf es t m c,t,m,c⟩) hx4 hn4 (by omega) g4 hl4 hss
 obtain ⟨h6,eh6⟩ : ∃ h6,h6 = hputS bx h5 (some (.c (.l [.sl q 0 k k false 2]) false none)):=⟨_,rfl⟩
 obtain ⟨h7,eh7⟩ : ∃ h7,h7 = hputS y h6 (some (.lp fA bx)):=⟨_,rfl⟩
 have hbx5 : hget bx h5 = some (.c (.l [L]) false none):=by rw [hfr bx (by omega)]; exact hbx4
 have round : call2 T (mm + 1) (fnKey fA) [.oth .no,.ptr bx 0,.agg [.int .u32 t,.str m c]] h2 n1 = .rv (.bool true) h6 n4:=by
  rw [call2_at,hA]
  show rdA2 (call2 T mm) (.ptr bx 0) (.agg [.int .u32 t,.str m c]) h2 n1 = _
  unfold rdA2
  rw [v_alc_at hx2]
  show v_st 2 (.ptr n1 0) (.agg [.int .u32 t,.str m c]) _ _ = _
  rw [v_st2_at (x:=.int .u32 0) (y:=.str 0 0) (hget_hputS_same _ _ _),← eh3]
  show v_ld (.ptr bx 0) h3 _ = _
  rw [ld_at (v:=L) (by rw [← g4' bx (ne_of_lt (by omega))]; exact hbx4) rfl,v_ldn2_at g3,part2_at,v_bsl_at hx3,← eh4,happ,v_st1_sl hbx5,← eh6]
 refine ⟨h7,.sl q 0 k k false 2,n4,?_,by omega,fun p hp hpb'=>?_,?_,?_⟩
 ·unfold mkR
  rw [ent,v_ext0,v_alc_at hx1]
  show v_st 2 (.ptr n 0) (.agg [.int .u32 t,.str m c]) _ _ = _
  rw [v_st2_at (x:=iW 0) (y:=.str 0 0) (hget_hputS_same _ _ _),← eh1]
  show v_ldn 2 (.ptr n 0) h1 _ = _
  rw [v_ldn2_at g1]
  show hgetR y h1 _ = _
  rw [hgetR_at,g1' y (ne_of_lt (by omega)),hy]
  show hputR y h1 none _ = _
  rw [hputR_at,← eh2]
  show tcallK (call2 T (mm + 1) (fnKey fA) [.oth .no,.ptr bx 0,.agg [.int .u32 t,.str m c]] h2 n1) _ = _
  rw [round]
  show hputR y h6 (some (.lp fA bx)) _ = _
  rw [hputR_at,← eh7]
  rfl
 ·by_cases hpy : p = y
  ·subst hpy; rw [eh7,hget_hputS_same,hy]
  ·rw [eh7,hget_hputS_ne _ _ (Ne.symm hpy),eh6,hget_hputS_ne _ _ (Ne.symm hpb'),hfr p hp,old p (by omega) hpy]
 ·rw [eh7,hget_hputS_ne _ _ (ne_of_lt hby).symm,eh6,hget_hputS_same]
 ·rw [itmE_at]
  refine hl5.mono (Nat.le_refl _) fun p hp1 hp2=>?_
  rw [eh7,hget_hputS_ne _ _ (ne_of_lt (by omega : y.toN < p.toN)),eh6,hget_hputS_ne _ _ (ne_of_lt (by omega : bx.toN < p.toN))]
end
section
variable {hs0 : Heap} {pm y bx it zb : K4} {zo clk : Nat} {es : List (V × V)} {bs : List Nat} {T : FC} {fA : FuncId} {its : List Nat} {mm : Nat}
theorem mk_loop (hA : tabG (fnKey fA) T = some (.ap fA its rdA2)) (hm : hget pm hs0 = some (.m es bs clk)) (hy : hget y hs0 = some (.lp fA bx)) (hlen : es.length = bs.length) (hnd : bs.Nodup) (hlt : allLt clk bs = true) (hS : ∀ e ∈ es,Shaped e)
  (hpb : pm.toN < bx.toN) (hby : bx.toN < y.toN) (hyi : y.toN < it.toN) {N : Nat} (hN : N ≤ 65535) {all : List Itm} (hbig : es.length ≤ 1000000) :
  ∀ (j k : Nat) (left : List ((V × V) × Nat)) (L : V) (h : Heap) (n : K4) (seen : List Nat) (ss : List Itm),left.length = j → j < k → (∀ p,p.toN < it.toN → p ≠ bx → hget p h = hget p hs0) → hget bx h = some (.c (.l [L]) false none) → hget it h = some (.it pm clk seen clk) → it.toN < n.toN → Lsa it h n ss L →
   n.toN + 4 * j ≤ N → ss.length + j ≤ es.length → (left.map (·.2)).Nodup → (∀ y ∈ left,memN y.2 seen = false ∧ y.2 ∈ bs) → (∀ (i : Nat) e b,es[i]? = some e → bs[i]? = some b → memN b seen = false → (e,b) ∈ left) → (ss ++ left.map fun y=>itmE es y.1).Perm all →
   (itK (mkB (call2 T (mm + 1))) k (aT y zb zo it) h n).sat fun r=>∃ L' h' n' ss',r = .ok (.exit 0) (aT y zb zo it) h' n' ∧ (∀ p,p.toN < it.toN → p ≠ bx → hget p h' = hget p hs0) ∧ hget bx h' = some (.c (.l [L']) false none) ∧ Lsa it h' n' ss' L' ∧ it.toN < n'.toN ∧ n'.toN ≤ N ∧ ss'.Perm all:=by
 intro j
 induction j with
 | zero =>
  intro k left L h n seen ss hlj hk hold hbx hit hin hl hnN hsl hI1 hI2 hI3 hI5
  obtain ⟨k,rfl⟩ : ∃ k',k = k' + 1:=⟨k - 1,by omega⟩
  obtain rfl:=List.eq_nil_of_length_eq_zero hlj
  rw [itK_round]
  show R.sat _ (onX (mkB (call2 T (mm + 1)) (aT y zb zo it) h n) (itK (mkB (call2 T (mm + 1))) k))
  apply onX_to
  show R.sat _ (nxtK (.ptr it 0) h n fun z5 h n=>v_ext 0 z5 fun z6=>vif z6 (blockX 1 (mkR (call2 T (mm + 1)) (.ptr it 0) (aT y zb zo it) h n) fun t h n=>nR t h n)<|.ok (.exit 0) (aT y zb zo it) h n)
  unfold nxtK
  show R.sat _ (itR it h _ _)
  rw [itR_at hit]
  show R.sat _ (mpR pm h _)
  rw [mpR_at (by rw [hold pm (by omega) (ne_of_lt hpb)]; exact hm),hlt,br_true,show Nat.ble clk clk = true from ble_iff.2 (Nat.le_refl _),br_true]
  refine goNone_to hlen (fun _=>?_) fun i e b he hb hn=>by have:=hI3 i e b he hb hn; simp at this
  refine ⟨L,h,n,ss,rfl,hold,hbx,hl,hin,by omega,?_⟩
  simpa using hI5
 | succ j ih =>
  intro k left L h n seen ss hlj hk hold hbx hit hin hl hnN hsl hI1 hI2 hI3 hI5
  obtain ⟨k,rfl⟩ : ∃ k',k = k' + 1:=⟨k - 1,by omega⟩
  rw [itK_round]
  show R.sat _ (onX (mkB (call2 T (mm + 1)) (aT y zb zo it) h n) (itK (mkB (call2 T (mm + 1))) k))
  apply onX_to
  show R.sat _ (nxtK (.ptr it 0) h n fun z5 h n=>v_ext 0 z5 fun z6=>vif z6 (blockX 1 (mkR (call2 T (mm + 1)) (.ptr it 0) (aT y zb zo it) h n) fun t h n=>nR t h n)<|.ok (.exit 0) (aT y zb zo it) h n)
  unfold nxtK
  show R.sat _ (itR it h _ _)
  rw [itR_at hit]
  show R.sat _ (mpR pm h _)
  rw [mpR_at (by rw [hold pm (by omega) (ne_of_lt hpb)]; exact hm),hlt,br_true,show Nat.ble clk clk = true from ble_iff.2 (Nat.le_refl _),br_true]
  refine goNone_to hlen (fun hall=>?_) fun i e b he hb hn=>?_
  ·exfalso
   cases left with
   | nil=>simp at hlj
   | cons z left =>
    obtain ⟨h1,h2⟩:=hI2 z (List.mem_cons_self ..)
    rw [hall _ h2] at h1; cases h1
  ·have hmem:=hI3 i e b he hb hn
   obtain ⟨l1,l2,rfl⟩:=List.append_of_mem hmem
   have hee : e ∈ es:=List.mem_of_getElem? he
   unfold leafK
   rw [hputR_at]
   obtain ⟨h1,eh1⟩ : ∃ h1,h1 = hputS it h (some (.it pm clk (b :: seen) clk)):=⟨_,rfl⟩
   rw [← eh1]
   have g1 : hget it h1 = some (.it pm clk (b :: seen) clk):=by rw [eh1,hget_hputS_same]
   have g1' : ∀ p,p ≠ it → hget p h1 = hget p h:=fun p hp=>by rw [eh1,hget_hputS_ne _ _ hp.symm]
   have hold1 : ∀ p,p.toN < it.toN → p ≠ bx → hget p h1 = hget p hs0:=fun p hp hpb'=>by rw [g1' p (ne_of_lt hp),hold p hp hpb']
   have hbx1 : hget bx h1 = some (.c (.l [L]) false none):=by rw [g1' bx (ne_of_lt (by omega))]; exact hbx
   have hl1 : Lsa it h1 n ss L:=hl.mono (Nat.le_refl _) fun p hp1 hp2=>g1' p (ne_of_lt hp1).symm
   obtain ⟨h',L',n',hR,hn1,hfr,hbx',hl'⟩:=mkR_step (zb:=zb) (zo:=zo) (mm:=mm) (n:=n) (L:=L) (ss:=ss) (e:=e) hA g1 (by rw [hold1 pm (by omega) (ne_of_lt hpb)]; exact hm) (by rw [hold1 y hyi (ne_of_lt hby).symm]; exact hy) hbx1 he hb hnd (hS e hee) hpb hby hyi hin hl1 (by omega) (by omega)
   obtain ⟨ek,ex⟩:=e
   show R.sat _ (blockX 1 (mkR (call2 T (mm + 1)) (.ptr it 0) (aT y zb zo it) h1 n) fun t h n=>nR t h n)
   rw [hR]
   show R.sat _ (itK (mkB (call2 T (mm + 1))) k (aT y zb zo it) h' n')
   have hI1' : (l1.map (·.2) ++ b :: l2.map (·.2)).Nodup:=by simpa using hI1
   have hI1'' : b ∉ l1.map (·.2) ∧ b ∉ l2.map (·.2) ∧ (l1.map (·.2) ++ l2.map (·.2)).Nodup:=by
    have hp : (b :: (l1.map (·.2) ++ l2.map (·.2))).Nodup:=(List.perm_middle.nodup_iff).1 hI1'
    obtain ⟨q1,q2⟩:=List.nodup_cons.1 hp
    exact ⟨fun h=>q1 (List.mem_append_left _ h),fun h=>q1 (List.mem_append_right _ h),q2⟩
   refine ih k (l1 ++ l2) L' h' n' (b :: seen) (ss ++ [itmE es (ek,ex)]) (by simp at hlj ⊢; omega) (by omega) (fun p hp hpb'=>by rw [hfr p (by omega) hpb',hold1 p hp hpb']) hbx' (by rw [hfr it (Nat.le_refl _) (ne_of_lt (by omega)).symm]; exact g1) (by omega) hl' (by omega) (by rw [List.length_append]; simp; omega) (by simpa using hI1''.2.2)
    (fun z hz=>?_) (fun i' e' b' he' hb' hn'=>?_) ?_
   ·have hz' : z ∈ l1 ++ ((ek,ex),b) :: l2:=by
     rcases List.mem_append.1 hz with h | h
     ·exact List.mem_append_left _ h
     ·exact List.mem_append_right _ (List.mem_cons_of_mem _ h)
    obtain ⟨y1,y2⟩:=hI2 z hz'
    refine ⟨?_,y2⟩
    show br (Nat.beq b z.2) true (memN z.2 seen) = false
    have hne : b ≠ z.2:=fun e=>by
     rcases List.mem_append.1 hz with h | h
     ·exact hI1''.1 (List.mem_map.2 ⟨z,h,e.symm⟩)
     ·exact hI1''.2.1 (List.mem_map.2 ⟨z,h,e.symm⟩)
    have : Nat.beq b z.2 = false:=by
     cases hx : Nat.beq b z.2 with
     | false=>rfl
     | true=>exact absurd (Nat.eq_of_beq_eq_true hx) hne
    rw [this]; exact y1
   ·have hn' : br (Nat.beq b b') true (memN b' seen) = false:=hn'
    cases hx : Nat.beq b b' with
    | true=>rw [hx] at hn'; cases hn'
    | false =>
     rw [hx] at hn'
     have:=hI3 i' e' b' he' hb' hn'
     rcases List.mem_append.1 this with h | h
     ·exact List.mem_append_left _ h
     ·rcases List.mem_cons.1 h with h | h
      ·cases h; rw [Nat.beq_refl] at hx; cases hx
      ·exact List.mem_append_right _ h
   ·refine List.Perm.trans ?_ hI5
    rw [List.map_append,List.map_append,List.map_cons,List.append_assoc]
    refine List.Perm.append_left _ ?_
    show (itmE es (ek,ex) :: (l1.map (fun y=>itmE es y.1) ++ l2.map fun y=>itmE es y.1)).Perm (l1.map (fun y=>itmE es y.1) ++ itmE es (ek,ex) :: l2.map fun y=>itmE es y.1)
    exact List.perm_middle.symm
end
section
variable {hs : Heap} {n0 pm zb : K4} {zo clk : Nat} {es : List (V × V)} {bs : List Nat} {T : FC} {fA : FuncId} {its : List Nat} {mm gk : Nat} {xz : List V} {s0 : Bool} {p0 : Option K4}
theorem ap_call (hA : tabG (fnKey fA) T = some (.ap fA its rdA2)) (hK : tabG (fnKey gk) T = some mkeysE) (hits : ∀ κ,memFK gk its κ = κ) (hzb : hget zb hs = some (.c (.l xz) s0 p0)) (hzo : xz[zo]? = some (.map pm)) (hm : hget pm hs = some (.m es bs clk)) (hlen : es.length = bs.length) (hnd : bs.Nodup) (hlt : allLt clk bs = true) (hS : ∀ e ∈ es,Shaped e)
  (hzn : zb.toN < n0.toN) (hpn : pm.toN < n0.toN) {N : Nat} (hN : N ≤ 65535) (hn : n0.toN + 3 + 4 * es.length ≤ N) (hbig : es.length ≤ 1000000) :
  (call2 T (mm + 3) (fnKey fA) [.nil .sl,.fn gk [.ptr zb zo]] hs n0).sat fun r=>∃ L h' n' it ss,r = .rv L h' n' ∧ (∀ p,p.toN < n0.toN → hget p h' = hget p hs) ∧ n0.toN < it.toN ∧ it.toN < n'.toN ∧ Lsa it h' n' ss L ∧ n'.toN ≤ N ∧ ss.Perm (es.map (itmE es)):=by
 obtain ⟨n1,hn1,hx1⟩:=K4.nx_u n0 (by omega)
 obtain ⟨n2,hn2,hx2⟩:=K4.nx_u n1 (by omega)
 obtain ⟨n3,hn3,hx3⟩:=K4.nx_u n2 (by omega)
 rw [call2_at,hA]
 show R.sat _ (memFK gk its (hputR n0 hs (some (.c (.l [.nil .sl]) false none)) fun h=>n0.nx fun n1=>hputR n1 h (some (.lp fA n0)) fun h=>n1.nx fun n2 =>
   tcallK (call2 T (mm + 2) (fnKey gk) (.oth (.yl n1) :: [.ptr zb zo]) h n2) fun _ h m =>
    hgetR n1 h fun o=>lpK o (obR n0 h fun cs _ _=>getC cs 0 fun sv=>hputR n0 h none fun h=>hputR n1 h none fun h=>.rv sv h m)))
 rw [hits,hputR_at,hx1,hputR_at,hx2]
 obtain ⟨h2,eh2⟩ : ∃ h2,h2 = hputS n1 (hputS n0 hs (some (.c (.l [.nil .sl]) false none))) (some (.lp fA n0)):=⟨_,rfl⟩
 rw [← eh2]
 have n01 : n0 ≠ n1:=ne_of_lt (by omega)
 have gy : hget n1 h2 = some (.lp fA n0):=by rw [eh2,hget_hputS_same]
 have gb : hget n0 h2 = some (.c (.l [.nil .sl]) false none):=by rw [eh2,hget_hputS_ne _ _ n01.symm,hget_hputS_same]
 have g2' : ∀ p,p.toN < n0.toN → hget p h2 = hget p hs:=fun p hp=>by rw [eh2,hget_hputS_ne _ _ (ne_of_lt (by omega : p.toN < n1.toN)).symm,hget_hputS_ne _ _ (ne_of_lt hp).symm]
 apply tcallK_to
 rw [call2_at,hK]
 apply retX_to
 show R.sat _ (v_ld (.ptr zb zo) h2 _)
 rw [ld_at (by rw [g2' zb hzn]; exact hzb) (v:=.map pm) hzo]
 show R.sat _ (mpR pm h2 _)
 rw [mpR_at (by rw [g2' pm hpn]; exact hm)]
 show R.sat _ (newR h2 n2 (.it pm clk [] clk) _)
 rw [newR_at hx3]
 obtain ⟨h3,eh3⟩ : ∃ h3,h3 = hputS n2 h2 (some (.it pm clk [] clk)):=⟨_,rfl⟩
 rw [← eh3]
 have g3' : ∀ p,p.toN < n2.toN → hget p h3 = hget p h2:=fun p hp=>by rw [eh3,hget_hputS_ne _ _ (ne_of_lt hp).symm]
 show R.sat _ (blockX 0 (itK (mkB (call2 T (mm + 1))) 1000000000 (aT n1 zb zo n2) h3 n3) _)
 apply blockX_to
 have key:=mk_loop (hs0:=h3) (zb:=zb) (zo:=zo) (mm:=mm) (it:=n2) (y:=n1) (bx:=n0) (N:=N) (all:=es.map (itmE es)) hA (by rw [g3' pm (by omega),g2' pm hpn]; exact hm) (by rw [g3' n1 (by omega)]; exact gy) hlen hnd hlt hS hpn (by omega) (by omega) hN hbig es.length 1000000000 (es.zip bs) (.nil .sl) h3 n3 [] [] (by rw [List.length_zip]; omega) (by omega) (fun p _ _=>rfl) (by rw [g3' n0 (by omega)]; exact gb) (by rw [eh3,hget_hputS_same]) (by omega) (.inl ⟨rfl,rfl⟩) (by omega) (by simp)
  (by rw [List.map_snd_zip (by omega)]; exact hnd) (fun y hy=>⟨rfl,(List.of_mem_zip hy).2⟩) (fun i e b he hb _=>List.mem_of_getElem? (List.getElem?_zip_eq_some.2 ⟨he,hb⟩)) (by
   have e1 : (es.zip bs).map (fun y=>itmE es y.1) = es.map (itmE es):=by
    rw [show (fun y : (V × V) × Nat=>itmE es y.1) = itmE es ∘ Prod.fst from rfl,← List.map_map,List.map_fst_zip (by omega)]
   rw [List.nil_append,e1])
 refine R.sat_mono ?_ key
 rintro r ⟨L',h',n',ss',rfl,hold,hbx,hl,hin,hn',hperm⟩
 refine ⟨.tup [],h',n',rfl,?_⟩
 show R.sat _ (hgetR n1 h' _)
 rw [hgetR_at,hold n1 (by omega) n01.symm,g3' n1 (by omega),gy]
 show R.sat _ (obR n0 h' _)
 rw [obR_at hbx]
 show R.sat _ (hputR n0 h' none _)
 rw [hputR_at]
 show R.sat _ (hputR n1 _ none _)
 rw [hputR_at]
 refine ⟨L',_,n',n2,ss',rfl,fun p hp=>?_,by omega,hin,hl.mono (Nat.le_refl _) fun p hp1 hp2=>?_,hn',hperm⟩
 ·rw [hget_hputS_ne _ _ (ne_of_lt (by omega : p.toN < n1.toN)).symm,hget_hputS_ne _ _ (ne_of_lt hp).symm,hold p (by omega) (ne_of_lt hp),g3' p (by omega),g2' p hp]
 ·rw [hget_hputS_ne _ _ (ne_of_lt (by omega : n1.toN < p.toN)),hget_hputS_ne _ _ (ne_of_lt (by omega : n0.toN < p.toN))]
end
section
variable {hs : Heap} {n0 pm zb cz lp : K4} {zo co lo clk : Nat} {es : List (V × V)} {bs : List Nat} {T : FC} {fA : FuncId} {its : List Nat} {mm gk g : Nat} {xz cx lx : List V} {s0 s1 s2 : Bool} {p0 : Option K4} {f : FuncId} {kc ks : K3}
theorem sorted_call (hf : tabG (fnKey f) T = some (sortedE kc ks)) (hc : tabG kc T = some (collE (fnKey fA))) (hks : tabG ks T = some (.prim (pSortKN g))) (hA : tabG (fnKey fA) T = some (.ap fA its rdA2)) (hK : tabG (fnKey gk) T = some mkeysE) (hits : ∀ κ,memFK gk its κ = κ)
  (hzb : hget zb hs = some (.c (.l xz) s0 p0)) (hzo : xz[zo]? = some (.map pm)) (hm : hget pm hs = some (.m es bs clk)) (hcz : hget cz hs = some (.c (.l cx) s1 none)) (hco : cx[co]? = some (.ptr lp lo)) (hlp : hget lp hs = some (.c (.l lx) s2 none)) (hlo : lx[lo]? = some (.map pm))
  (hlen : es.length = bs.length) (hnd : bs.Nodup) (hlt : allLt clk bs = true) (hS : ∀ e ∈ es,Shaped e) (hok : ∀ x ∈ es.map (itmE es),ItmOK es x) (hst : (sortUL (es.map (itmE es))).Pairwise fun a b=>a.u < b.u)
  (hzn : zb.toN < n0.toN) (hpn : pm.toN < n0.toN) (hcn : cz.toN < n0.toN) (hln : lp.toN < n0.toN) {N : Nat} (hN : N ≤ 65535) (hn : n0.toN + 3 + 4 * es.length ≤ N) (hbig : es.length ≤ 1000000) :
  (call2 T (mm + 5) (fnKey f) [.fn gk [.ptr zb zo],.fn g [.ptr cz co]] hs n0).sat fun r=>∃ v h' n',r = .rv v h' n' ∧ (∀ p,p.toN < n0.toN → hget p h' = hget p hs) ∧ n'.toN ≤ N ∧
   ((es = [] ∧ v = .nil .sl) ∨ (es ≠ [] ∧ ∃ q,v = .sl q 0 es.length es.length false 2 ∧ hget q h' = some (.c (.l (flatI (sortUL (es.map (itmE es))))) false none) ∧ n0.toN ≤ q.toN)):=by
 rw [call2_at,hf]
 apply retX_to
 show R.sat _ (tcallK (call2 T (mm + 4) kc [.fn gk [.ptr zb zo]] hs n0) _)
 apply tcallK_to
 rw [call2_at,hc]
 apply retX_to
 show R.sat _ (tcallK (call2 T (mm + 3) (fnKey fA) [.nil .sl,.fn gk [.ptr zb zo]] hs n0) _)
 apply tcallK_to
 refine R.sat_mono ?_ (ap_call (mm:=mm) hA hK hits hzb hzo hm hlen hnd hlt hS hzn hpn hN hn hbig)
 rintro r ⟨L,h',n',it,ss,rfl,hold,hit,hin,hl,hn',hperm⟩
 refine ⟨L,h',n',rfl,L,h',n',rfl,?_⟩
 show R.sat _ (v_call (call2 T (mm + 4) ks [L,.fn g [.ptr cz co]] h' n') _)
 rw [call2_at,hks]
 have hlen' : ss.length = es.length:=by rw [hperm.length_eq,List.length_map]
 rcases hl with ⟨h0,hL⟩ | ⟨h0,q,prev,hL,hq,hq0,hqn,hpr⟩
 ·subst h0 hL
  have he : es = []:=by
   cases es with
   | nil=>rfl
   | cons=>simp at hlen'
  exact ⟨.nil .sl,h',n',rfl,hold,hn',.inl ⟨he,rfl⟩⟩
 ·subst hL
  have he : es ≠ []:=fun e=>by
   subst e
   exact h0 (List.eq_nil_of_length_eq_zero hlen')
  have hone : sortUL ss = sortUL (es.map (itmE es)):=sorted_one hst (sortUL_perm _) ((sortUL_perm ss).trans hperm) (sortUL_sorted ss)
  have hnp : ∀ p : K4,p.toN < n0.toN → notP prev p = true:=fun p hp=>by
   cases hprev : prev with
   | none=>rfl
   | some r =>
    have hb : K4.beq r p = false:=by
     cases hb : K4.beq r p with
     | false=>rfl
     | true=>have:=K4.beq_iff.1 hb; have:=(hpr r hprev).1; subst r; omega
    show br (K4.beq r p) false true = true
    rw [hb]; rfl
  show R.sat _ (v_call (primX (pSortK g [.sl q 0 ss.length ss.length false 2,.fn g [.ptr cz co]] h' n')) _)
  rw [pSortK_at (by rw [hold cz hcn]; exact hcz) hco (by rw [hold lp hln]; exact hlp) hlo (by rw [hold pm hpn]; exact hm) hq h0 (by omega) (hnp cz hcn) (hnp lp hln) (fun e=>by subst e; omega) (fun e=>by subst e; omega) hS (fun x hx=>hok x (hperm.mem_iff.1 hx)) (by rw [hone]; exact hst)]
  refine ⟨.sl q 0 ss.length ss.length false 2,_,n',rfl,fun p hp=>?_,hn',.inr ⟨he,q,by rw [hlen'],by rw [hget_hputS_same,hone],by omega⟩⟩
  rw [hget_hputS_ne _ _ (ne_of_lt (by omega : p.toN < q.toN)).symm]
  cases hprev : prev with
  | none=>exact hold p hp
  | some r =>
   have:=(hpr r hprev).1
   show hget p (hputS r h' none) = _
   rw [hget_hputS_ne _ _ (ne_of_lt (by omega : p.toN < r.toN)).symm]
   exact hold p hp
end
def noK (o : Option K4) (κ : R) : R:=@Option.rec K4 (fun _=>R) κ (fF1 "tied") o
theorem noK_rv {o : Option K4} {κ : R} {v : V} {h : Heap} {n : K4} (hx : noK o κ = .rv v h n) : o = none ∧ κ = .rv v h n:=by
 cases o with
 | none=>exact ⟨rfl,hx⟩
 | some r=>cases hx
def newL2 (hs : Heap) (n M : K4) (j : Nat) (ys : List V) : R :=
 @List.rec V (fun _=>R) (.rv (.nil .sl) hs M) (fun _ _ _=>hputR n hs (some (.c (.l ys) false none)) fun hf=>.rv (.sl n 0 j j false 2) hf M) ys
def sortedC (gk g : Nat) (n : K4) (args : List V) (hs : Heap) (acc : List K4) : R :=
 unK args fun x l=>unK l fun y l=>nlK l (asFn x fun gk' ck=>br (Nat.beq gk' gk) (unK ck fun zk l=>nlK l (asP zk fun zb zo=>asFn y fun g' cc=>br (Nat.beq g' g) (unK cc fun cb l=>nlK l (asP cb fun cz co=>allLtK n acc (
  obR zb hs fun cs _ _=>csL cs fun xz=>nthK zo xz fun u=>asMap u (.fail "no map") fun pm=>mpR pm hs fun es bs clk =>
  obR cz hs fun cs _ pv=>noK pv (csL cs fun cx=>nthK co cx fun u=>asP u fun lp lo=>obR lp hs fun cs _ pv2=>noK pv2 (csL cs fun lx=>nthK lo lx fun u=>asMap u (.fail "no map") fun pm2=>br (K4.beq pm2 pm)
   (br (ltK zb n) (br (ltK pm n) (br (ltK cz n) (br (ltK lp n) (br (allLt clk bs) (br (sameLn es bs) (br (nodupN bs) (lenM es fun j=>br (Nat.ble j 1000000) (shapeK es (flatEK es fun cells=>gathK es j cells fun its=>sortU its fun ys=>strictU ys (flatK' ys fun zs =>
    forceN (Nat.add 3 (Nat.mul 4 j)) fun d=>nxs d n fun M=>newL2 hs n M j zs))) (.fail "a great map")) (.fail "stamps")) (.fail "stamps")) (.fail "stamps")) (.fail "places")) (.fail "places")) (.fail "places")) (.fail "places")) (.fail "another map")))))) (.fail "another closure"))) (.fail "another range"))
def pSorted (gk g : Nat) : Prim:=fun args h n=>ordK 400 (sortedC gk g n args) args h n
section
variable {P : Program} {ρ : Env} {B : Nat}
theorem asFn_rv {x : V} {κ : Nat → List V → R} {v : V} {h : Heap} {n : K4} (hx : asFn x κ = .rv v h n) : ∃ f l,x = .fn f l ∧ κ f l = .rv v h n:=by
 obtain ⟨f,l,rfl,e⟩:=asFn_good (good_of hx)
 exact ⟨f,l,rfl,by rw [← e]; exact hx⟩
theorem unK_rv {l : List V} {κ : V → List V → R} {v : V} {h : Heap} {n : K4} (hx : unK l κ = .rv v h n) : ∃ a l',l = a :: l' ∧ κ a l' = .rv v h n:=by
 obtain ⟨a,l',rfl,e⟩:=unK_good (good_of hx)
 exact ⟨a,l',rfl,by rw [← e]; exact hx⟩
theorem nlK_rv {l : List V} {κ : R} {v : V} {h : Heap} {n : K4} (hx : nlK l κ = .rv v h n) : l = [] ∧ κ = .rv v h n:=by
 obtain ⟨rfl,e⟩:=nlK_good (good_of hx)
 exact ⟨rfl,by rw [← e]; exact hx⟩
theorem csL_rv {cs : Cs} {κ : List V → R} {v : V} {h : Heap} {n : K4} (hx : csL cs κ = .rv v h n) : ∃ xs,cs = .l xs ∧ κ xs = .rv v h n:=by
 obtain ⟨xs,rfl,e⟩:=csL_good (good_of hx)
 exact ⟨xs,rfl,by rw [← e]; exact hx⟩
theorem sorted_ok (hρ : OneSym ρ) (hmix : P.follows .mixedOrders = true) {T : FC} (hT : TabOK P ρ B T) {f fA : FuncId} {kc ks : K3} {gk g : Nat} {its : List Nat} (hf : tabG (fnKey f) T = some (sortedE kc ks)) (hc : tabG kc T = some (collE (fnKey fA))) (hks : tabG ks T = some (.prim (pSortKN g))) (hA : tabG (fnKey fA) T = some (.ap fA its rdA2))
  (hK : tabG (fnKey gk) T = some mkeysE) (hits : ∀ κ,memFK gk its κ = κ) : PrimOK P ρ B f (pSorted gk g):=by
 intro args h n v h1 n1 hx φ w xs gm hr
 refine ordK_ok (hr:=hx) gm ?_
 intro hs acc v1 hh1 m1 m sub hcan res hOld hm1 gs
 unfold sortedC at hcan
 obtain ⟨x,l,rfl,c1⟩:=unK_rv hcan
 obtain ⟨y,l,rfl,c2⟩:=unK_rv c1
 obtain ⟨rfl,c3⟩:=nlK_rv c2
 obtain ⟨gk',ck,rfl,c4⟩:=asFn_rv c3
 obtain ⟨e1,c5⟩:=br_rv c4
 obtain rfl:=Nat.eq_of_beq_eq_true e1
 obtain ⟨zk,l,rfl,c6⟩:=unK_rv c5
 obtain ⟨rfl,c7⟩:=nlK_rv c6
 obtain ⟨zb,zo,rfl,c8⟩:=asP_rv c7
 obtain ⟨g',cc,rfl,c9⟩:=asFn_rv c8
 obtain ⟨e2,c10⟩:=br_rv c9
 obtain rfl:=Nat.eq_of_beq_eq_true e2
 obtain ⟨cb,l,rfl,c11⟩:=unK_rv c10
 obtain ⟨rfl,c12⟩:=nlK_rv c11
 obtain ⟨cz,co,rfl,c13⟩:=asP_rv c12
 obtain ⟨hacc,q7⟩:=allLtK_good (good_of c13)
 rw [q7] at c13
 clear q7
 obtain ⟨cs,s0,p0,hzb,c14⟩:=obR_rv c13
 obtain ⟨xz,rfl,c15⟩:=csL_rv c14
 obtain ⟨u,hzo,c16⟩:=nthK_rv c15
 obtain ⟨pm,rfl,c17⟩:=asMap_rv c16
 obtain ⟨es,bs,clk,hpm,c18⟩:=mpR_rv c17
 obtain ⟨cs,s1,p1,hcz,c19⟩:=obR_rv c18
 obtain ⟨rfl,c20⟩:=noK_rv c19
 obtain ⟨cx,rfl,c21⟩:=csL_rv c20
 obtain ⟨u,hco,c22⟩:=nthK_rv c21
 obtain ⟨lp,lo,rfl,c23⟩:=asP_rv c22
 obtain ⟨cs,s2,p2,hlp,c24⟩:=obR_rv c23
 obtain ⟨rfl,c25⟩:=noK_rv c24
 obtain ⟨lx,rfl,c26⟩:=csL_rv c25
 obtain ⟨u,hlo,c27⟩:=nthK_rv c26
 obtain ⟨pm2,rfl,c28⟩:=asMap_rv c27
 obtain ⟨e3,c29⟩:=br_rv c28
 obtain rfl:=K4.beq_iff.1 e3
 obtain ⟨l1,c30⟩:=br_rv c29
 obtain ⟨l2,c31⟩:=br_rv c30
 obtain ⟨l3,c32⟩:=br_rv c31
 obtain ⟨l4,c33⟩:=br_rv c32
 obtain ⟨l5,c34⟩:=br_rv c33
 obtain ⟨l6,c35⟩:=br_rv c34
 obtain ⟨l7,c36⟩:=br_rv c35
 rw [lenM_eq] at c36
 obtain ⟨l8,c37⟩:=br_rv c36
 have l1:=ltK_iff.1 l1
 have l2:=ltK_iff.1 l2
 have l3:=ltK_iff.1 l3
 have l4:=ltK_iff.1 l4
 have l6:=sameLn_iff l6
 have l7:=nodupN_iff l7
 have l8:=ble_iff.1 l8
 obtain ⟨hS,q⟩:=shapeK_good (good_of c37)
 rw [q,flatEK_eq (es0:=es) hS] at c37
 clear q
 obtain ⟨its',hfl,hil,hok,q⟩:=gathK_good hS (good_of c37)
 rw [q] at c37
 clear q
 have hit : its' = es.map (itmE es):=flatI_inj hfl.symm (fun a ha=>itm_u (hok a ha)) fun a ha=>by
  obtain ⟨e,he,rfl⟩:=List.mem_map.1 ha
  exact itmE_u (hS e he)
 subst hit
 rw [sortU_eq] at c37
 obtain ⟨hst,q⟩:=strictU_good (good_of c37)
 rw [q,flatK'_eq,forceN_eq] at c37
 clear q
 obtain ⟨M,hM,q⟩:=nxs_good (good_of c37)
 rw [q] at c37
 clear q
 have hM : M.toN = n.toN + (3 + 4 * es.length):=hM
 have key:=sorted_call (mm:=95) hf hc hks hA hK hits hzb hzo hpm hcz hco hlp hlo l6 l7 l5 hS hok hst l1 l2 l3 l4 (M.toN_max) (by omega) l8
 refine (call2_all hρ hmix hT 100).1 f _ hs n _ (R.sat_mono ?_ key) φ w xs gs hr
 rintro r ⟨v',h',n',rfl,hold,hn',hres⟩
 rcases hres with ⟨h0,rfl⟩ | ⟨h0,q,rfl,hq,hqn⟩
 ·subst h0
  replace c37 : R.rv (.nil .sl) hs M = .rv v1 hh1 m1:=c37
  cases c37
  exact ⟨.inl ⟨rfl,rfl⟩,fun p hp=>⟨(hold p (hacc p hp)).symm,hOld p hp⟩,by omega⟩
 ·have c37 : R.rv (.sl n 0 es.length es.length false 2) (hputS n hs (some (.c (.l (flatI (sortUL (es.map (itmE es))))) false none))) M = .rv v1 hh1 m1:=by
   rw [← c37]
   have hll : (sortUL (es.map (itmE es))).length = es.length:=by rw [(sortUL_perm _).length_eq,List.length_map]
   generalize sortUL (es.map (itmE es)) = sl at hll ⊢
   cases sl with
   | nil=>exact absurd (List.eq_nil_of_length_eq_zero hll.symm) h0
   | cons s sl =>
    show _ = hputR n hs (some (.c (.l (flatI (s :: sl))) false none)) fun hf=>.rv (.sl n 0 es.length es.length false 2) hf M
    rw [hputR_at]
  cases c37
  have hno : oldV n (.sl n 0 es.length es.length false 2) = false:=by
   show ltK n n = false
   cases hl : ltK n n with
   | false=>rfl
   | true=>have:=ltK_iff.1 hl; omega
  rcases res with ⟨ho,_⟩ | ⟨_,p,p',off',len',cap',ex',esz',e1,e2,hp1,hp2,hcl,hob⟩
  ·rw [hno] at ho; cases ho
  ·cases e1
   refine ⟨.inr ⟨hno,n,q,0,_,_,false,2,rfl,rfl,Nat.le_refl _,hqn,by rw [hget_hputS_same,hq],hob⟩,fun p hp=>⟨?_,hOld p hp⟩,by omega⟩
   rw [hget_hputS_ne _ _ (ne_of_lt (hacc p hp)).symm]
   exact (hold p (hacc p hp)).symm
end
end Go.Ev
