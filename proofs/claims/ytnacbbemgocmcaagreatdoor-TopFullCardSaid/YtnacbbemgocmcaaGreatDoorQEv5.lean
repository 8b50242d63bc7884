/- AN EVALUATOR OF THE MODEL OF Go, PROVED SOUND, PART 5: what it says of a call holds in every world, on every tape. Conditions: none of its own; each theorem bears its premises. -/
import Derived.Test.YtnacbbemgocmcaaGreatDoorQEv4
import Derived.Shelf.SlSortCmp.WholeK
noncomputable section
set_option linter.unusedSimpArgs false
set_option linter.unusedVariables false
namespace Go.Ev
set_option linter.unusedVariables false
set_option maxRecDepth 100000
section
variable {h:Heap} {n n' p:K4}
end
section
variable {hs h:Heap} {n0 n pm it zb:K4} {zo tn clk:Nat} {es:List (V×V)} {bs:List Nat} {bx:List V} {supb:Bool} {prevb:Option K4} {T:FC} {g:FuncId} {mm:Nat}
end
section
variable {P:Program} {ρ:Env} {B:Nat}
end
end Go.Ev

namespace Go.Ev
set_option linter.unusedVariables false
set_option maxRecDepth 100000
open Go.RowKit
structure Itm where
 u:Nat
 t:Nat
 m:Nat
 c:Nat
section
def Itm.cells (x:Itm):List V:=[.int .u32 x.t,.str x.m x.c]
def C7 (l:List Itm):List V:=l.flatMap Itm.cells
theorem JA:∀ {l:List Itm} {i:Nat} {x:Itm},l[i]? = some x->(C7 l)[2*i]? = some (.int .u32 x.t)∧(C7 l)[2*i+1]? = some (.str x.m x.c)
 | [],i,x,h=>by simp at h
 | y::l,0,x,h=>by simp at h; subst h; exact ⟨rfl,rfl⟩
 | y::l,i+1,x,h=>by
  have:=JA (l:=l) (i:=i) (x:=x) (by simpa using h)
  have e:C7 (y::l) = .int .u32 y.t :: .str y.m y.c::C7 l:=rfl
  rw [e,show 2*(i+1)=2*i+1+1 by omega]
  exact this
theorem DJ:∀ l:List Itm,(C7 l).length=2*l.length
 | []=>rfl
 | y::l=>by
  have e:C7 (y::l) = .int .u32 y.t :: .str y.m y.c::C7 l:=rfl
  rw [e,List.length_cons,List.length_cons,List.length_cons,DJ l]; omega
def GR (es:List (V×V)) (j:Nat):List V->(List Itm->R)->R :=
 @Nat.rec (fun _=>List V->(List Itm->R)->R) (fun l κ=>GM l (κ [])) (fun _ ih l κ=>Da l fun a l=>Da l fun b l=>E6 a fun kd t=>br (Be kd .u32) (br (Nat.ble (Nat.succ t) 4294967296) (Bd b fun m c=>br (Nat.ble (Nat.succ c) (Nat.pow 256 m))
  (DM (.ks [.i,.s]) (.agg [a,b]) es (fun r=>E6 r fun k u=>br (Be k .i64) (br (Nat.ble (Nat.succ u) 4611686018427387904) (ih l fun zs=>κ (⟨u,t,m,c⟩::zs)) (.fail "")) (.fail "")) (.fail "")) (.fail "")) (.fail "")) (.fail "")) j
def Po (es:List (V×V)) (x:Itm):Prop:=x.t<4294967296∧x.c<256 ^ x.m∧x.u<4611686018427387904∧Ez x.t x.m x.c es=some (.int .i64 x.u)
theorem L5 {es:List (V×V)} (hS:∀ e∈es,CT e):∀ {j:Nat} {l:List V} {κ:List Itm->R},(GR es j l κ).good->∃ its,l=C7 its∧its.length=j∧(∀ x∈its,Po es x)∧GR es j l κ=κ its
 | 0,l,κ,h=>by
  obtain ⟨rfl,e⟩:=Cj (show R.good (GM l (κ [])) from h)
  exact ⟨[],rfl,rfl,fun x hx=>by simp at hx,e⟩
 | j+1,l,κ,h=>by
  have e0:GR es (j+1) l κ=Da l fun a l=>Da l fun b l=>E6 a fun kd t=>br (Be kd .u32) (br (Nat.ble (Nat.succ t) 4294967296) (Bd b fun m c=>br (Nat.ble (Nat.succ c) (Nat.pow 256 m))
   (DM (.ks [.i,.s]) (.agg [a,b]) es (fun r=>E6 r fun k u=>br (Be k .i64) (br (Nat.ble (Nat.succ u) 4611686018427387904) (GR es j l fun zs=>κ (⟨u,t,m,c⟩::zs)) (.fail "")) (.fail "")) (.fail "")) (.fail "")) (.fail "")) (.fail ""):=rfl
  rw [e0] at h ⊢
  obtain ⟨a,l,rfl,e1⟩:=Br h
  rw [e1] at h ⊢
  obtain ⟨b,l,rfl,e2⟩:=Br h
  rw [e2] at h ⊢
  obtain ⟨kd,t,rfl,e3⟩:=F1 h
  rw [e3] at h ⊢
  obtain ⟨hk,e4⟩:=Ak h
  rw [e4] at h ⊢
  obtain ⟨ht,e5⟩:=Ak h
  rw [e5] at h ⊢
  obtain ⟨m,c,rfl,e6⟩:=BA h
  rw [e6] at h ⊢
  obtain ⟨hc,e7⟩:=Ak h
  rw [e7] at h ⊢
  have:=B3.1 hk
  subst this
  rw [Gh hS] at h ⊢
  cases hl:Ez t m c es with
  | none=>rw [hl] at h; exact h.elim
  | some r =>
   rw [hl] at h
   replace h:R.good (E6 r fun k u=>br (Be k .i64) (br (Nat.ble (Nat.succ u) 4611686018427387904) (GR es j l fun zs=>κ (⟨u,t,m,c⟩::zs)) (.fail "")) (.fail "")):=h
   show ∃ its,_∧_∧_∧(E6 r fun k u=>br (Be k .i64) (br (Nat.ble (Nat.succ u) 4611686018427387904) (GR es j l fun zs=>κ (⟨u,t,m,c⟩::zs)) (.fail "")) (.fail ""))=κ its
   obtain ⟨k,u,rfl,e8⟩:=F1 h
   rw [e8] at h ⊢
   obtain ⟨hk2,e9⟩:=Ak h
   rw [e9] at h ⊢
   obtain ⟨hu,e10⟩:=Ak h
   rw [e10] at h ⊢
   have:=B3.1 hk2
   subst this
   obtain ⟨its,rfl,hlen,hok,e11⟩:=L5 hS h
   refine ⟨⟨u,t,m,c⟩::its,rfl,by rw [List.length_cons,hlen],fun x hx=>?_,e11⟩
   rcases List.mem_cons.1 hx with rfl | hx
   ·exact ⟨Ao.1 ht,Ao.1 hc,Ao.1 hu,hl⟩
   ·exact hok x hx
def W6 (x:Itm) (l:List Itm):(List Itm->R)->R :=
 @List.rec Itm (fun _=>(List Itm->R)->R) (fun κ=>κ [x]) (fun y ys ih κ=>br (Nat.ble x.u y.u) (κ (x::y::ys)) (ih fun zs=>κ (y::zs))) l
def Rq (l:List Itm):(List Itm->R)->R :=
 @List.rec Itm (fun _=>(List Itm->R)->R) (fun κ=>κ []) (fun x _ ih κ=>ih fun zs=>W6 x zs κ) l
def J8 (x:Itm):List Itm->List Itm
 | []=>[x]
 | y::ys=>if x.u≤y.u then x::y::ys else y::J8 x ys
def CQ:List Itm->List Itm
 | []=>[]
 | x::l=>J8 x (CQ l)
theorem R5 (x:Itm):∀ (l:List Itm) (κ:List Itm->R),W6 x l κ=κ (J8 x l)
 | [],κ=>rfl
 | y::ys,κ=>by
  show br (Nat.ble x.u y.u) (κ (x::y::ys)) (W6 x ys fun zs=>κ (y::zs))=κ (if x.u≤y.u then x::y::ys else y::J8 x ys)
  rw [R5 x ys]
  by_cases h:x.u≤y.u
  ·rw [if_pos h,Ao.2 h]; rfl
  ·rw [if_neg h,Bh (by omega)]; rfl
theorem Jk:∀ (l:List Itm) (κ:List Itm->R),Rq l κ=κ (CQ l)
 | [],κ=>rfl
 | x::l,κ=>by
  show Rq l (fun zs=>W6 x zs κ)=_
  rw [Jk l,R5]; rfl
theorem Ig (x:Itm):∀ l,(J8 x l).Perm (x::l)
 | []=>List.Perm.refl _
 | y::ys=>by
  unfold J8
  split
  ·exact List.Perm.refl _
  ·exact ((Ig x ys).cons y).trans (List.Perm.swap x y ys)
theorem Dc:∀ l,(CQ l).Perm l
 | []=>List.Perm.refl _
 | x::l=>(Ig x _).trans ((Dc l).cons x)
theorem Jm (x:Itm):∀ l:List Itm,l.Pairwise (fun a b=>a.u≤b.u)->(J8 x l).Pairwise (fun a b=>a.u≤b.u)
 | [],_=>by simp [J8]
 | y::ys,h=>by
  obtain ⟨h1,h2⟩:=List.pairwise_cons.1 h
  unfold J8
  split
  ·rename_i hxy
   refine List.pairwise_cons.2 ⟨fun z hz=>?_,h⟩
   rcases List.mem_cons.1 hz with e | hz
   ·subst e; exact hxy
   ·exact Nat.le_trans hxy (h1 z hz)
  ·rename_i hxy
   refine List.pairwise_cons.2 ⟨fun z hz=>?_,Jm x ys h2⟩
   rcases List.mem_cons.1 ((Ig x ys).mem_iff.1 hz) with e | hz
   ·subst e; omega
   ·exact h1 z hz
theorem I2:∀ l,(CQ l).Pairwise (fun a b=>a.u≤b.u)
 | []=>List.Pairwise.nil
 | x::l=>Jm x _ (I2 l)
def FI (l:List Itm) (κ:R):R :=
 @List.rec Itm (fun _=>R) κ (fun x tl ih=>@List.rec Itm (fun _=>R) ih (fun y _ _=>br (Nat.ble (Nat.succ x.u) y.u) ih (.fail "")) tl) l
theorem GG:∀ {l:List Itm} {κ:R},(FI l κ).good->l.Pairwise (fun a b=>a.u<b.u)∧FI l κ=κ
 | [],κ,_=>⟨List.Pairwise.nil,rfl⟩
 | [x],κ,h=>⟨by simp,rfl⟩
 | x::y::l,κ,h=>by
  have e0:FI (x::y::l) κ=br (Nat.ble (Nat.succ x.u) y.u) (FI (y::l) κ) (.fail ""):=rfl
  rw [e0] at h ⊢
  obtain ⟨h1,e1⟩:=Ak h
  rw [e1] at h ⊢
  obtain ⟨h2,e2⟩:=GG h
  have h1:x.u<y.u:=Ao.1 h1
  refine ⟨List.pairwise_cons.2 ⟨fun z hz=>?_,h2⟩,e2⟩
  rcases List.mem_cons.1 hz with rfl | hz
  ·exact h1
  ·exact Nat.lt_trans h1 ((List.pairwise_cons.1 h2).1 z hz)
theorem Li:∀ {l:List Itm} {κ:R},l.Pairwise (fun a b=>a.u<b.u)->FI l κ=κ
 | [],κ,_=>rfl
 | [x],κ,_=>rfl
 | x::y::l,κ,h=>by
  obtain ⟨h1,h2⟩:=List.pairwise_cons.1 h
  show br (Nat.ble (Nat.succ x.u) y.u) (FI (y::l) κ) (.fail "")=κ
  rw [Ao.2 (h1 y (List.mem_cons_self ..)),AD]
  exact Li h2
theorem LC {l l' s:List Itm} (hs:s.Pairwise (fun a b=>a.u<b.u)) (h1:s.Perm l) (h2:l'.Perm l) (h3:l'.Pairwise (fun a b=>a.u≤b.u)):l'=s:=by
 have hinj:∀ a b:Itm,a∈l'->b∈s->a.u≤b.u->b.u≤a.u->a=b:=fun a b ha hb h h'=>by
  have ha':a∈s:=h1.mem_iff.2 (h2.mem_iff.1 ha)
  obtain ⟨i,hi,rfl⟩:=List.mem_iff_getElem.1 ha'
  obtain ⟨j,hj,rfl⟩:=List.mem_iff_getElem.1 hb
  rcases Nat.lt_trichotomy i j with hlt | rfl | hlt
  ·have:=List.pairwise_iff_getElem.1 hs i j hi hj hlt; omega
  ·rfl
  ·have:=List.pairwise_iff_getElem.1 hs j i hj hi hlt; omega
 exact List.Perm.eq_of_pairwise (le:=fun a b=>a.u≤b.u) hinj h3 (hs.imp fun h=>Nat.le_of_lt h) (h2.trans h1.symm)
def Ol (l:List Itm):(List V->R)->R:=@List.rec Itm (fun _=>(List V->R)->R) (fun κ=>κ []) (fun x _ ih κ=>@Itm.rec (fun _=>R) (fun _ t m c=>ih fun zs=>κ (.int .u32 t :: .str m c::zs)) x) l
theorem Hq:∀ (l:List Itm) (κ:List V->R),Ol l κ=κ (C7 l)
 | [],κ=>rfl
 | ⟨u,t,m,c⟩::l,κ=>by
  show Ol l (fun zs=>κ (.int .u32 t :: .str m c::zs))=_
  rw [Hq l]; rfl
def O1 (o:Option K4) (p:K4):Bool:=@Option.rec K4 (fun _=>Bool) true (fun r=>br (K4.beq r p) false true) o
theorem IF {o:Option K4} {p:K4} (h:O1 o p=true):o≠some p:=fun e=>by
 subst e
 have h:br (K4.beq p p) false true=true:=h
 rw [K4.beq_iff.2 rfl] at h; cases h
def JG (g:Nat):Gr:=fun args h n =>
 Da args fun x l=>Da l fun y l=>GM l (Lq y fun g' caps=>br (Nat.beq g' g) (Da caps fun cb l=>GM l (Hy cb fun zb zo=>HH zb h fun cs _ pv=>Vd cs fun bx=>CL zo bx fun u=>Hy u fun lp lo=>HH lp h fun cs _ pv2=>Vd cs fun lx=>CL lo lx fun u=>D6 u (.fail "") fun pm=>KD pm h fun es bs clk =>
  CK x (.fail "") fun p off len cap ex esz=>br (Nat.beq esz 2) (br (Nat.ble 1 len) (br (Nat.ble len 1000000) (HH p h fun cs _ pv3=>br (O1 pv p) (br (O1 pv2 p) (br (O1 pv3 zb) (br (O1 pv3 lp) (br (K4.beq p zb) (.fail "") (br (K4.beq p lp) (.fail "") (Gx es
   (Aj (Nat.mul len 2) fun m=>Bs cs off m fun z=>Vd z fun xs=>GR es len xs fun its=>Rq its fun ys=>FI ys (Ol ys fun zs=>FL h p off (.l zs) fun h=>.rv (.tup []) h n)))))
   (.fail "")) (.fail "")) (.fail "")) (.fail "")) (.fail "")) (.fail "")) (.fail ""))) (.fail ""))
end
section
variable {P:Program} {ρ:Env} {B:Nat}
def QS (P:Program) (ty:TypeId) (bm:Nat) (O:Obj) (key v:Value):Prop:=∀ W:World,W.heap[bm]? = some O->(Instr.lookup ty (.map (some bm)) key false).run P W = .ok v W
def QJ (P:Program) (g:FuncId) (ty:TypeId):Prop:=∀ (bz oz bl ol bm:Nat) (O:Obj) (ta tb:Int) (sa sb:ByteArray) (ua ub:Nat) (W:World),W.cell? ⟨bz,oz,none⟩=some (.pointer (some ⟨bl,ol,none⟩))->W.cell? ⟨bl,ol,none⟩=some (.map (some bm))->W.heap[bm]? = some O →
 bz<W.heap.size->bl<W.heap.size->bm<W.heap.size->QS P ty bm O (.agg #[.int .u32 ta,.string sa]) (.int .i64 ua)->QS P ty bm O (.agg #[.int .u32 tb,.string sb]) (.int .i64 ub)->ua<4611686018427387904->ub<4611686018427387904 →
 Calls P g #[.agg #[.int .u32 ta,.string sa],.agg #[.int .u32 tb,.string sb],.pointer (some ⟨bz,oz,none⟩)] W fun e w'=>e = .returned (.int .i64 ((ua:Int) - ub)) ∧ ∃ q os',w'=Go.Sort.grow (W.drewN q) os'
def NL (P:Program) (f:FuncId):Prop:=∀ (α:Type) [Inhabited α] (enc:α->List Value) (hk:∀ x,(enc x).length=2) (h1:∀ x,∀ v∈enc x,v.oneCell'=true) (cf:α->α->Int) (hO:Go.Sort.SWO (Go.Proofs.ltOf cf)) (g:Nat) (cb:Array Value) (blk off cap:Nat) (d:Array α) (w:World),
 (∀ args w,(callFunc g args).run P w = .ok (.enter g args) w)->Go.Proofs.CmpLays P g cb enc 2 cf blk off d.size w->Go.Sort.HoldsK enc 2 w blk off d->blk<w.heap.size->d.size<4611686018427387904 →
 Calls P f #[.slice (some ⟨blk,off,none⟩) d.size cap,.func (.func g) #[] cb] w fun e w'=>e = .returned (.tuple #[]) ∧ ∃ d' n os,Go.Sort.PermIn 0 d.size d d'∧Go.Sort.SortedIn (Go.Proofs.ltOf cf) 0 d.size d'∧w'=Go.Proofs.sortWorldK enc 2 w blk off n d' os
theorem RQ {ty kt et:TypeId} (ht:P.underlying ty=some (.map kt et)) (hp:Gj P kt=some (.ks [.i,.s])) {es:List (V×V)} (hS:∀ e∈es,CT e) {t m c u:Nat} (hl:Ez t m c es=some (.int .i64 u)) {φ:Ba} {key:Value} (hk:AL ρ φ (.agg [.int .u32 t,.str m c]) key)
  {ents:Array MapEntry} {clk bm:Nat} (hE:GP ρ φ es ents.toList):QS P ty bm (.map ents clk) key (.int .i64 (BW .i64 u)):=by
 intro W hW
 have e0:DM (.ks [.i,.s]) (.agg [.int .u32 t,.str m c]) es (fun r=>R.rv r AS KP) (.rv (.tup []) AS KP) = .rv (.int .i64 u) AS KP:=by rw [Gh hS,hl]
 obtain ⟨r,hf,hr⟩:=Iv hp (k:=.agg [.int .u32 t,.str m c]) (κf:=fun r=>R.rv r AS KP) (κn:=.rv (.tup []) AS KP) (es:=es) (by rw [e0]; trivial)
 have hck:=Dm (P:=P) (b:=ents.isEmpty) (d:=9998) hp (Ej hp hk (by exact ⟨_,rfl,rfl⟩)).1 W (Ej hp hk (by exact ⟨_,rfl,rfl⟩)).2
 cases r with
 | none =>
  have hr:DM (.ks [.i,.s]) (.agg [.int .u32 t,.str m c]) es (fun r=>R.rv r AS KP) (.rv (.tup []) AS KP) = .rv (.tup []) AS KP:=hr
  rw [e0] at hr; cases hr
 | some i =>
  obtain ⟨ee,hee,hr⟩:=hr
  rw [e0] at hr
  simp only [R.rv.injEq] at hr
  obtain ⟨mm,hmm,_,hval⟩:=IJ hE hee
  rw [←hr.1] at hval
  obtain ⟨_,hval⟩:=BM hval
  have hfk:=(EB (P:=P) (w:=W) hp hk hf hE).1
  have hgo:(getObj bm).run P W = .ok (.map ents clk) W:=by simp [getObj,Sem.run,hW]
  have hmm':ents[i]? = some mm:=by simpa using hmm
  simp only [Instr.lookup,Sem.run_bind,run_underlying ht,Result.andThen_ok,Sem.run_pure,hgo,hck,hfk]
  simp [hmm',hval]
theorem TC {h:Heap} {n:K4} {φ:Ba} {w:World} (g:Gam ρ B h n φ w) {p:K4} {off:Nat} {cs y z:Cs} {prev:Option K4} {b s tot:Nat} (hp:Ar p h=some (.c cs false prev)) (hφ:φ p=some (b,s,tot)) (hz:Nf cs off y z)
  {d:Array Value} (hl:d.size=y.len) (hv:∀ i v,y.at i=some v->AL ρ φ v d[i]! ∧ (d[i]!).oneCell'=true) (k:Nat) (os:Array Obj) :
  Gam ρ B (AJ p (Ck prev h) (some (.c z false none))) n φ (Go.Sort.grow (Go.Sort.putRow id (Go.Sort.ahead w k) b (s+off) d) os) ∧
  Fr h (AJ p (Ck prev h) (some (.c z false none))) φ φ n n w (Go.Sort.grow (Go.Sort.putRow id (Go.Sort.ahead w k) b (s+off) d) os):=by
 obtain ⟨c,e,fr,k1,k2,k3,k4,k5⟩:=g.obj p _ b s tot hp hφ
 obtain ⟨z1,z2,z3,z4,z5⟩:=hz
 have hb:=(g.blk p b s tot hφ).2
 have hat:∀ i,(Go.Sort.putCells id (s+off) d c)[i]? = if s+off≤i∧i<s+off+d.size then (c[i]?).map (fun _=>d[i - (s+off)]!) else c[i]?:=fun i=>by
  unfold Go.Sort.putCells
  rw [Array.getElem?_mapIdx]
  split
  ·rename_i hi
   cases c[i]? <;> simp
  ·rename_i hi
   cases c[i]? <;> simp
 have hG:Gam ρ B (AJ p (Ck prev h) (some (.c z false none))) n φ (Cc w b (.cells (Go.Sort.putCells id (s+off) d c) e fr)):=by
  refine g.write (o:=.c cs false prev) (o':=.c z false none) hp hφ rfl rfl ⟨_,e,fr,Cg hb,by unfold Go.Sort.putCells; rw [Array.size_mapIdx,k2],by rw [z2]; exact k3,k4,fun i v hi=>?_⟩
  by_cases ha:i<off
  ·rw [z3 i ha] at hi
   obtain ⟨x,hx,hr⟩:=k5 i v hi
   exact ⟨x,by show (Go.Sort.putCells id (s+off) d c)[s+i]? = some x; rw [hat,if_neg (by omega)]; exact hx,hr⟩
  ·by_cases hb':i<off+y.len
   ·obtain ⟨j,rfl⟩:∃ j,i=off+j:=⟨i - off,by omega⟩
    have hin:s+(off+j)<c.size:=by omega
    rw [z4 j (by omega)] at hi
    refine ⟨d[j]!,?_,(hv j v hi).1,(hv j v hi).2⟩
    show (Go.Sort.putCells id (s+off) d c)[s+(off+j)]? = some _
    rw [hat,if_pos (by omega),Array.getElem?_eq_getElem hin]
    simp only [Option.map_some]
    rw [show s+(off+j) - (s+off)=j by omega]
   ·rw [z5 i (by omega)] at hi
    obtain ⟨x,hx,hr⟩:=k5 i v hi
    exact ⟨x,by show (Go.Sort.putCells id (s+off) d c)[s+i]? = some x; rw [hat,if_neg (by omega)]; exact hx,hr⟩
 have hF:Fr h (AJ p (Ck prev h) (some (.c z false none))) φ φ n n w (Cc w b (.cells (Go.Sort.putCells id (s+off) d c) e fr)):=Fr.write (o:=.c cs false prev) hp hφ
 have hheap:∀ i,i<w.heap.size->(Go.Sort.grow (Go.Sort.putRow id (Go.Sort.ahead w k) b (s+off) d) os).heap[i]? = (Cc w b (.cells (Go.Sort.putCells id (s+off) d c) e fr)).heap[i]?:=fun i hi=>by
  show ((w.heap.modify b (Go.Sort.onCells (Go.Sort.putCells id (s+off) d)))++os)[i]? = _
  rw [Array.getElem?_append_left (by rw [Array.size_modify]; exact hi),Array.getElem?_modify]
  by_cases e':b=i
  ·subst e'
   rw [if_pos rfl,Cg hi,k1]; rfl
  ·rw [if_neg e',FF e']
 have hbel:Below (Cc w b (.cells (Go.Sort.putCells id (s+off) d c) e fr)).heap.size (Cc w b (.cells (Go.Sort.putCells id (s+off) d c) e fr)) (Go.Sort.grow (Go.Sort.putRow id (Go.Sort.ahead w k) b (s+off) d) os):=by
  refine ⟨rfl,rfl,rfl,?_,fun i hi=>?_⟩
  ·rw [Cw]
   show _≤((w.heap.modify b (Go.Sort.onCells (Go.Sort.putCells id (s+off) d)))++os).size
   rw [Array.size_append,Array.size_modify]; omega
  ·rw [Cw] at hi
   exact hheap i hi
 obtain ⟨g2,f2⟩:=hG.below hbel
 exact ⟨g2,hF.trans f2⟩
def Itm.vals (x:Itm):List Value:=[.int .u32 (x.t:Int),.string ⟨(Ir x.m x.c).toArray⟩]
theorem Itm.rel_t {φ:Ba} {x:Itm} (h:x.t<4294967296) {X:Value} (hr:AL ρ φ (.int .u32 x.t) X):X = .int .u32 (x.t:Int):=by
 obtain ⟨_,rfl⟩:=BM hr
 rw [Az (by simp only [Hk]; exact h)]
theorem Itm.rel_s {φ:Ba} {x:Itm} (h:x.c<256 ^ x.m) {X:Value} (hr:AL ρ φ (.str x.m x.c) X):X = .string ⟨(Ir x.m x.c).toArray⟩:=by
 obtain ⟨s,rfl,hsz,hc⟩:=(by simpa only [AL] using hr:∃ s:ByteArray,X = .string s∧s.size=x.m∧AV s.data.toList=x.c)
 have:s.data.toList=Ir x.m x.c:=J2 (by rw [IQ,←hsz]; rfl) (by rw [hc,IT _ _ h])
 rw [←this]
theorem Itm.rel_t' {φ:Ba} {x:Itm} (h:x.t<4294967296):AL ρ φ (.int .u32 x.t) (.int .u32 (x.t:Int)):=by
 simp only [AL]
 exact ⟨by simp only [Mk]; exact h,by rw [Az (by simp only [Hk]; exact h)]⟩
theorem Itm.rel_s' {φ:Ba} {x:Itm} (h:x.c<256 ^ x.m):AL ρ φ (.str x.m x.c) (.string ⟨(Ir x.m x.c).toArray⟩):=by
 simp only [AL]
 exact ⟨_,rfl,IQ _ _,IT _ _ h⟩
theorem Itm.rel_key {φ:Ba} {x:Itm} (h1:x.t<4294967296) (h2:x.c<256 ^ x.m):AL ρ φ (.agg [.int .u32 x.t,.str x.m x.c]) (.agg x.vals.toArray):=by
 simp only [AL]
 exact ⟨x.vals.toArray,rfl,Au.2 ⟨_,_,rfl,Itm.rel_t' h1,Au.2 ⟨_,_,rfl,Itm.rel_s' h2,AH.2 rfl⟩⟩,fun y hy=>by
  simp [Itm.vals] at hy
  rcases hy with rfl | rfl <;> rfl⟩
theorem Kq {α:Type} [Inhabited α] {enc:α->List Value} {w:World} {blk off m b:Nat} {dk:Array α} {os:Array Obj} (hb:b<w.heap.size) (hne:blk≠b):(Go.Proofs.sortWorldK enc 2 w blk off m dk os).heap[b]? = w.heap[b]?:=by
 show ((w.heap.modify blk (Go.Sort.onCells (Go.Sort.putCells id off (Go.Sort.flatK enc 2 dk))))++os)[b]? = _
 rw [Array.getElem?_append_left (by rw [Array.size_modify]; exact hb),Array.getElem?_modify,if_neg hne]
theorem Ks {α:Type} [Inhabited α] {enc:α->List Value} {w:World} {blk off m:Nat} {dk:Array α} {os:Array Obj}:w.heap.size≤(Go.Proofs.sortWorldK enc 2 w blk off m dk os).heap.size:=by
 show _≤((w.heap.modify blk (Go.Sort.onCells (Go.Sort.putCells id off (Go.Sort.flatK enc 2 dk))))++os).size
 rw [Array.size_append,Array.size_modify]; omega
theorem LH {x:V} {κ:K4->Nat->R} {v:V} {h:Heap} {n:K4} (hx:Hy x κ = .rv v h n):∃ p o,x = .ptr p o∧κ p o = .rv v h n:=by
 obtain ⟨p,o,rfl,e⟩:=CA (v:=x) (κ:=κ) (Bc hx)
 exact ⟨p,o,rfl,by rw [←e]; exact hx⟩
theorem Up {c:Bool} {s:String} {r:R} {v:V} {h:Heap} {n:K4} (hx:br c (.fail s) r = .rv v h n):c=false∧r = .rv v h n:=by
 cases c with
 | true=>cases hx
 | false=>exact ⟨rfl,hx⟩
theorem UG {f g:FuncId} {fn gn:Func} {ty kt et:TypeId} (hf:P.funcs[f]? = some fn) (hb:fn.body.isSome=true) (hn:(fn.name == "runtime.NumGoroutine")=false) (hS:NL P f) (hgf:P.funcs[g]? = some gn) (hgb:gn.body.isSome=true) (hgn:(gn.name == "runtime.NumGoroutine")=false) (hC:QJ P g ty)
  (ht:P.underlying ty=some (.map kt et)) (hp:Gj P kt=some (.ks [.i,.s])):EE P ρ B f (JG g):=by
 intro args h n v h1 n1 hx φ w xs gm hr
 have hg:(JG g args h n).good:=Bc hx
 unfold JG at hx hg
 obtain ⟨x,l,rfl,q1⟩:=Br hg
 rw [q1] at hx hg
 obtain ⟨y,l,rfl,q2⟩:=Br hg
 rw [q2] at hx hg
 obtain ⟨rfl,q3⟩:=Cj hg
 rw [q3] at hx hg
 obtain ⟨g',caps,rfl,q4⟩:=Ho hg
 rw [q4] at hx hg
 obtain ⟨hgg,q5⟩:=Ak hg
 rw [q5] at hx hg
 have hgg:=Nat.eq_of_beq_eq_true hgg
 subst hgg
 obtain ⟨cb,l,rfl,q6⟩:=Br hg
 rw [q6] at hx hg
 obtain ⟨rfl,q7⟩:=Cj hg
 rw [q7] at hx
 clear q1 q2 q3 q4 q5 q6 q7 hg
 obtain ⟨zb,zo,rfl,hx⟩:=LH hx
 obtain ⟨cs,sup1,pv1,hzb,hx⟩:=Ih hx
 obtain ⟨bx,rfl,q⟩:=GT (Bc hx)
 rw [q] at hx; clear q
 obtain ⟨u,hu1,hx⟩:=Hw hx
 obtain ⟨lp,lo,rfl,hx⟩:=LH hx
 obtain ⟨cs,sup2,pv2,hlp,hx⟩:=Ih hx
 obtain ⟨lx,rfl,q⟩:=GT (Bc hx)
 rw [q] at hx; clear q
 obtain ⟨u,hu2,hx⟩:=Hw hx
 obtain ⟨pm,rfl,hx⟩:=ID hx
 obtain ⟨es,bs,clk,hpm,hx⟩:=Qx hx
 obtain ⟨p,off,len,cap,ex,esz,rfl,hx⟩:=W8 hx
 obtain ⟨hz,hx⟩:=C3 hx
 obtain ⟨hlen1,hx⟩:=C3 hx
 obtain ⟨hlen2,hx⟩:=C3 hx
 obtain ⟨cs3,sup3,pv3,hpp,hx⟩:=Ih hx
 obtain ⟨t1,hx⟩:=C3 hx
 obtain ⟨t2,hx⟩:=C3 hx
 obtain ⟨t3,hx⟩:=C3 hx
 obtain ⟨t4,hx⟩:=C3 hx
 obtain ⟨t5,hx⟩:=Up hx
 obtain ⟨t6,hx⟩:=Up hx
 obtain ⟨hSh,q⟩:=GV (Bc hx)
 rw [q] at hx; clear q
 rw [Ai] at hx
 obtain ⟨hrg,z,hzl,hza,q⟩:=C6 (Bc hx)
 rw [q] at hx; clear q
 obtain ⟨zs,rfl,q⟩:=GT (Bc hx)
 rw [q] at hx; clear q
 obtain ⟨its,rfl,hil,hok,q⟩:=L5 hSh (Bc hx)
 rw [q] at hx; clear q
 rw [Jk] at hx
 obtain ⟨hst,q⟩:=GG (Bc hx)
 rw [q] at hx; clear q
 rw [Hq,Dl] at hx
 obtain ⟨cs4,prev4,zz,hp4,hzz,q⟩:=DG (Bc hx)
 rw [hpp] at hp4
 cases hp4
 rw [q] at hx; clear q
 cases hx
 have hz:=Nat.eq_of_beq_eq_true hz
 subst hz
 have hlen1:=Ao.1 hlen1
 have hlen2:=Ao.1 hlen2
 have hne1:zb≠p:=fun e=>by rw [K4.beq_iff.2 e.symm] at t5; cases t5
 have hne2:lp≠p:=fun e=>by rw [K4.beq_iff.2 e.symm] at t6; cases t6
 obtain ⟨X,ys,hX,r0,hr⟩:=Au.1 hr
 obtain ⟨Y,ys,rfl,r1,hr⟩:=Au.1 hr
 obtain rfl:=AH.1 hr
 obtain ⟨b,s,tot,o,cap',hφ,rfl,c1,c2,_,c4⟩:=CI r0
 obtain ⟨cbs,rfl,hcb⟩:=Iy r1
 obtain ⟨Z,ys,hZ,r2,hcb⟩:=Au.1 hcb
 obtain rfl:=AH.1 hcb
 obtain ⟨bz,sz,tz,hφz,rfl⟩:=Cr r2
 have hcbs:cbs = #[.pointer (some ⟨bz,sz+zo,none⟩)]:=by cases cbs; simp at hZ; simp [hZ]
 subst hcbs
 obtain rfl:xs = #[.slice (some ⟨b,o,none⟩) len cap',.func (.func g') #[] #[.pointer (some ⟨bz,sz+zo,none⟩)]]:=by cases xs; simp at hX; simp [hX]
 have ho:=c4 (by omega)
 obtain ⟨cz,ez,fz,hwz,_,_,_,hcz⟩:=gm.obj zb _ bz sz tz hzb hφz
 obtain ⟨vz,hvz,rz,_⟩:=hcz zo _ hu1
 obtain ⟨bl,sl,tl,hφl,rfl⟩:=Cr rz
 obtain ⟨cl,el,fl,hwl,_,_,_,hcl⟩:=gm.obj lp _ bl sl tl hlp hφl
 obtain ⟨vl,hvl,rl,_⟩:=hcl lo _ hu2
 obtain ⟨bm,sm,tm,hφm,rfl⟩:=ES rl
 obtain ⟨ents,hwm,hE,_⟩:=gm.obj pm _ bm sm tm hpm hφm
 obtain ⟨cc,e,fr,hw,htot,hstt,hfr,hcs⟩:=gm.obj p _ b s tot hpp hφ
 have hbw:=(gm.blk p b s tot hφ).2
 have hbz:=(gm.blk zb bz sz tz hφz).2
 have hbl:=(gm.blk lp bl sl tl hφl).2
 have hbm:=(gm.blk pm bm sm tm hφm).2
 have dz:b≠bz:=fun e=>by
  subst e
  rcases gm.sep zb p _ _ b sz tz s tot hne1 hzb hpp hφz hφ with h | h
  ·exact IF t1 h
  ·exact IF t3 h
 have dl:b≠bl:=fun e=>by
  subst e
  rcases gm.sep lp p _ _ b sl tl s tot hne2 hlp hpp hφl hφ with h | h
  ·exact IF t2 h
  ·exact IF t4 h
 have dm:b≠bm:=fun e=>by subst e; rw [hw] at hwm; cases hwm
 -- the elements
 have hit:its≠[]:=fun e=>by rw [e] at hil; simp at hil; omega
 obtain ⟨x0,hx0⟩:=List.exists_mem_of_ne_nil its hit
 let α:={ x:Itm // x∈its }
 haveI:Inhabited α:=⟨⟨x0,hx0⟩⟩
 let enc:α->List Value:=fun x=>x.1.vals
 let cf:α->α->Int:=fun x y=>(x.1.u:Int) - y.1.u
 let d:Array α:=its.attach.toArray
 have hdsz:d.size=len:=by show its.attach.toArray.size=len; simp [hil]
 have hdget:∀ i (hi:i<its.length),d[i]! = ⟨its[i],List.getElem_mem hi⟩:=fun i hi=>by
  show its.attach.toArray[i]! = _
  rw [getElem!_pos _ i (by simpa using hi)]
  simp
 have hO:Go.Sort.SWO (Go.Proofs.ltOf cf):=by
  have e:∀ x y:α,Go.Proofs.ltOf cf x y=decide (x.1.u<y.1.u):=fun x y=>by
   show decide ((x.1.u:Int) - y.1.u<0)=_
   exact decide_eq_decide.2 (by omega)
  exact ⟨fun x=>by rw [e]; simp,fun x y z h1 h2=>by rw [e] at *; simp at *; omega,fun x y z h1 h2=>by rw [e] at *; simp at *; omega⟩
 have hcell:∀ j,j<2*len->∃ V',(C7 its)[j]? = some V':=fun j hj=>by
  have:j<(C7 its).length:=by rw [DJ,hil]; exact hj
  exact ⟨_,List.getElem?_eq_getElem this⟩
 have hval:∀ i,i<len->cc[s+(off+2*i)]? = some (.int .u32 ((d[i]!).1.t:Int))∧cc[s+(off+(2*i+1))]? = some (.string ⟨(Ir (d[i]!).1.m (d[i]!).1.c).toArray⟩):=fun i hi=>by
  have hi':i<its.length:=by omega
  have hxi:its[i]? = some its[i]:=List.getElem?_eq_getElem hi'
  have hm:its[i]∈its:=List.getElem_mem hi'
  obtain ⟨k1,k2,k3,k4⟩:=hok _ hm
  obtain ⟨f1,f2⟩:=JA hxi
  rw [hdget i hi']
  have a1:(Cs.l (C7 its)).at (2*i)=some (.int .u32 its[i].t):=f1
  have a2:(Cs.l (C7 its)).at (2*i+1)=some (.str its[i].m its[i].c):=f2
  rw [hza _ (by show 2*i<len*2; omega)] at a1
  rw [hza _ (by show 2*i+1<len*2; omega)] at a2
  obtain ⟨v1,g1,g2,_⟩:=hcs _ _ a1
  obtain ⟨v2,g3,g4,_⟩:=hcs _ _ a2
  exact ⟨by rw [Itm.rel_t k1 g2] at g1; exact g1,by rw [Itm.rel_s k2 g4] at g3; exact g3⟩
 have hH:Go.Sort.HoldsK enc 2 w b o d:=by
  intro j hj
  rw [Go.Sort.size_flatK,hdsz] at hj
  have hj2:j / 2<len:=by omega
  rw [Go.Sort.get_flatK enc 2 d j (by rw [hdsz]; exact hj)]
  obtain ⟨v1,v2⟩:=hval (j / 2) hj2
  refine ⟨?_,?_⟩
  ·simp only [World.cell?,hw]
   show cc[o+j]? = some (id ((d[j / 2]!).1.vals[j % 2]!))
   rw [ho.1]
   rcases (by omega:j % 2=0∨j % 2=1) with hm | hm
   ·rw [hm,show s+off+j=s+(off+2*(j / 2)) by omega,v1]; rfl
   ·rw [hm,show s+off+j=s+(off+(2*(j / 2)+1)) by omega,v2]; rfl
  ·simp only [World.frozen?,hw]
   rcases hfr with e | e
   ·cases fr; simp only at e; subst e; simp
   ·cases fr; simp only at e; simp; omega
 have hcmp:Go.Proofs.CmpLays P g' #[.pointer (some ⟨bz,sz+zo,none⟩)] enc 2 cf b o d.size w:=by
  intro m os dk hdk x y
  obtain ⟨k1,k2,k3,k4⟩:=hok x.1 x.2
  obtain ⟨j1,j2,j3,j4⟩:=hok y.1 y.2
  have lx:=RQ (P:=P) ht hp hSh k4 (ρ:=ρ) (φ:=φ) (Itm.rel_key k1 k2) (clk:=clk) (bm:=bm) hE
  have ly:=RQ (P:=P) ht hp hSh j4 (ρ:=ρ) (φ:=φ) (Itm.rel_key j1 j2) (clk:=clk) (bm:=bm) hE
  rw [Az (by simp only [Hk]; omega)] at lx ly
  have hW:∀ b',b'<w.heap.size->b≠b'->(Go.Proofs.sortWorldK enc 2 w b o m dk os).heap[b']? = w.heap[b']?:=fun b' h1 h2=>Kq h1 h2
  have hsz:=Ks (enc:=enc) (w:=w) (blk:=b) (off:=o) (m:=m) (dk:=dk) (os:=os)
  exact hC bz (sz+zo) bl (sl+lo) bm (.map ents clk) _ _ _ _ x.1.u y.1.u _ (by simp only [World.cell?,hW bz hbz dz,hwz]; exact hvz) (by simp only [World.cell?,hW bl hbl dl,hwl]; exact hvl) (by rw [hW bm hbm dm]; exact hwm)
   (by omega) (by omega) (by omega) lx ly k3 j3
 obtain ⟨cd,hcd⟩:=Option.isSome_iff_exists.1 hb
 obtain ⟨gd,hgd⟩:=Option.isSome_iff_exists.1 hgb
 have eg:∀ args w,(callFunc g' args).run P w = .ok (.enter g' args) w:=fun args w=>by
  have hn':gn.name ≠ "runtime.NumGoroutine":=by simpa using hgn
  simp [callFunc,hgf,hn',hgd]
 have HS:=hS α enc (fun x=>rfl) (fun x v hv=>by
  have hv:v∈x.1.vals:=hv
  simp [Itm.vals] at hv
  rcases hv with rfl | rfl <;> rfl) cf hO g' #[.pointer (some ⟨bz,sz+zo,none⟩)] b o cap' d w eg hcmp hH hbw (by rw [hdsz]; omega)
 rw [hdsz] at HS
 refine BP hf hcd hn (HS.mono fun e w' ⟨he,d',k,os,hperm,hsort,hw'⟩=>⟨_,he,φ,?_⟩)
 subst hw'
 -- what is there now
 have hd'sz:d'.size=len:=by rw [hperm.1,hdsz]
 have hys:d'.toList.map (·.1)=CQ its:=by
  have p1:(d'.toList.map (·.1)).Perm its:=by
   have h3:=hperm.2.2
   have e1:(d'.extract 0 len)=d':=by rw [←hd'sz]; simp
   have e2:(d.extract 0 len)=d:=by rw [←hdsz]; simp
   rw [e1,e2] at h3
   have:=h3.map (·.1)
   have e3:d.toList.map (·.1)=its:=by show its.attach.toArray.toList.map (·.1)=its; simp
   rw [e3] at this; exact this
  refine LC hst (Dc its) p1 ?_
  refine List.pairwise_map.2 (List.pairwise_iff_getElem.2 fun i j hi hj hij=>?_)
  have hi':i<d'.size:=by simpa using hi
  have hj':j<d'.size:=by simpa using hj
  have:=hsort i j (Nat.zero_le _) hij (by omega)
  rw [getElem!_pos _ i hi',getElem!_pos _ j hj'] at this
  have this:decide ((d'[j].1.u:Int) - d'[i].1.u<0)=false:=this
  simp at this
  simp only [Array.getElem_toList]
  omega
 have hd'get:∀ i (hi:i<len),∃ x,(CQ its)[i]? = some x∧(d'[i]!).1=x∧x∈its:=fun i hi=>by
  have hi':i<d'.size:=by omega
  refine ⟨(d'[i]!).1,?_,rfl,(d'[i]!).2⟩
  rw [←hys,List.getElem?_map,Array.getElem?_toList,Array.getElem?_eq_getElem hi',getElem!_pos _ i hi']; rfl
 have hsl:(CQ its).length=len:=by rw [(Dc its).length_eq,hil]
 rw [show o=s+off from ho.1]
 obtain ⟨g2,f2⟩:=TC gm hpp hφ hzz (d:=Go.Sort.flatK enc 2 d') (by rw [Go.Sort.size_flatK,hd'sz]; show len*2=(C7 (CQ its)).length; rw [DJ,hsl]; omega) (fun j u hu=>by
  have hu:(C7 (CQ its))[j]? = some u:=hu
  have hj:j<2*len:=by
   have:=(List.getElem?_eq_some_iff.1 hu).1
   rw [DJ,hsl] at this; exact this
  rw [Go.Sort.get_flatK enc 2 d' j (by rw [hd'sz]; omega)]
  obtain ⟨x,hx1,hx2,hx3⟩:=hd'get (j / 2) (by omega)
  obtain ⟨k1,k2,_,_⟩:=hok x hx3
  obtain ⟨f1,f2⟩:=JA hx1
  show AL ρ φ u ((d'[j / 2]!).1.vals[j % 2]!)∧((d'[j / 2]!).1.vals[j % 2]!).oneCell'=true
  rw [hx2]
  rcases (by omega:j % 2=0∨j % 2=1) with hm | hm
  ·rw [show 2*(j / 2)=j by omega] at f1
   rw [f1] at hu
   cases hu
   rw [hm]
   exact ⟨Itm.rel_t' k1,rfl⟩
  ·rw [show 2*(j / 2)+1=j by omega] at f2
   rw [f2] at hu
   cases hu
   rw [hm]
   exact ⟨Itm.rel_s' k2,rfl⟩) k os
 exact ⟨f2,g2,Ja⟩
end
end Go.Ev

namespace Go.Ev
set_option linter.unusedVariables false
set_option maxRecDepth 100000
open Go.RowKit
def GD (g:Nat):Gr:=fun args h n=>Da args fun x l=>CK x (Da l fun y l=>GM l (.rv (.tup []) h n)) fun _ _ _ _ _ _=>JG g args h n
def Pw (P:Program) (f:FuncId):Prop:=∀ (p:Option Addr) (cap:Nat) (fv:Value) (w:World),Calls P f #[.slice p 0 cap,fv] w fun e w'=>e = .returned (.tuple #[])∧w'=w
theorem Mf {P:Program} {ρ:Env} {B:Nat} {f g:FuncId} {fn gn:Func} {ty kt et:TypeId} (hf:P.funcs[f]? = some fn) (hb:fn.body.isSome=true) (hn:(fn.name == "runtime.NumGoroutine")=false) (hS:NL P f) (hN:Pw P f) (hgf:P.funcs[g]? = some gn) (hgb:gn.body.isSome=true) (hgn:(gn.name == "runtime.NumGoroutine")=false) (hC:QJ P g ty)
  (ht:P.underlying ty=some (.map kt et)) (hp:Gj P kt=some (.ks [.i,.s])):EE P ρ B f (GD g):=by
 intro args h n v h1 n1 hx φ w xs gm hr
 have hg:(GD g args h n).good:=Bc hx
 unfold GD at hx hg
 obtain ⟨x,l,rfl,q1⟩:=Br hg
 rw [q1] at hx hg
 rcases C8 hg with ⟨rfl,q4⟩ | ⟨p,off,len,cap,ex,esz,rfl,q4⟩
 ·rw [q4] at hx hg
  obtain ⟨y,l,rfl,q2⟩:=Br hg
  rw [q2] at hx hg
  obtain ⟨rfl,q3⟩:=Cj hg
  rw [q3] at hx
  cases hx
  obtain ⟨X,ys,hX,r0,hr⟩:=Au.1 hr
  obtain ⟨Y,ys,rfl,r1,hr⟩:=Au.1 hr
  obtain rfl:=AH.1 hr
  have e0:=BL r0
  obtain rfl:xs = #[.slice none 0 0,Y]:=by cases xs; simp at hX; simp [hX,e0,C2]
  obtain ⟨cd,hcd⟩:=Option.isSome_iff_exists.1 hb
  exact BP hf hcd hn ((hN none 0 Y w).mono fun e w' ⟨he,hw⟩=>⟨_,he,φ,by subst hw; exact ⟨Fr.refl h φ n _,gm,Ja⟩⟩)
 ·rw [q4] at hx
  exact UG hf hb hn hS hgf hgb hgn hC ht hp _ h n v h1 n1 hx φ w xs gm hr
section
variable {h:Heap} {n n' p:K4}
theorem OI {a b:V} {κ:KV} (hn:∀ k:K4->R,n.nx k=k n') (hp:Ar p h=some (.c (.l [a,b]) false none)) :
  AZ 2 24 (.nil .sl) (.sl p 0 1 1 true 2) h n κ=κ (.sl n 0 1 1 false 2) (AJ n h (some (.c (.l [a,b]) false none))) n':=by
 show I4 p h (fun cs _ _=>Aj (Nat.mul 1 2) fun m=>Bs cs 0 m fun y=>FJ 2 24 (.nil .sl) 1 y h n κ)=_
 rw [GZ hp,Ai]
 show Gg h n (.c (.l [a,b]) false none) (fun h' n'=>κ (.sl n 0 1 1 false 2) h' n')=_
 rw [Fp hn]
theorem Qk {q:K4} {xs:List V} {k:Nat} {prev:Option K4} {a b:V} {κ:KV} (hn:∀ k:K4->R,n.nx k=k n') (hp:Ar p h=some (.c (.l [a,b]) false none)) (hq:Ar q h=some (.c (.l xs) false prev)) (hx:xs.length=2*k) (hl:k≤1000000000) :
  AZ 2 24 (.sl q 0 k k false 2) (.sl p 0 1 1 true 2) h n κ =
   κ (.sl n 0 (k+1) (k+1) false 2) (AJ n (AJ q (Ck prev h) (some (.c (.l xs) true none))) (some (.c (.l (xs++[a,b])) false (some q)))) n':=by
 show I4 p h (fun cs _ _=>Aj (Nat.mul 1 2) fun m=>Bs cs 0 m fun y=>FJ 2 24 (.sl q 0 k k false 2) 1 y h n κ)=_
 rw [GZ hp,Ai]
 show Aj (Nat.add k 1) (fun need=>br (Nat.ble need k) _ _)=_
 rw [Ai]
 have h1:Nat.ble (Nat.add k 1) k=false:=Bh (by show k<k+1; omega)
 have h2:Nat.ble (Nat.mul (Nat.add (Nat.mul 4 (Nat.add k 1)) 4096) 24) 281474976710656=true:=Ao.2 (by show (4*(k+1)+4096)*24≤281474976710656; omega)
 rw [h1,h2]
 show HH q h _=_
 rw [GA hq,Ai,show Nat.mul k 2=xs.length by show k*2=_; omega,EX]
 show EF xs [a,b] (fun zs=>_)=_
 rw [Dz]
 show Aj (Nat.add 0 xs.length) (fun j=>Bs (.l xs) 0 j _)=_
 rw [Ai,show Nat.add 0 xs.length=xs.length by show 0+xs.length=_; omega,EX,Es]
 show EU q (Ck prev h) (some (.c (.l xs) true none)) _=_
 rw [Bm,Fp hn]
theorem Uc {x:V} {q:K4} {a b c:Nat} {ex:Bool} {esz:Nat} {κ:Heap->R} (hp:Ar p h=some (.c (.l [x]) false none)):Ay (.ptr p 0) (.sl q a b c ex esz) h κ=κ (AJ p h (some (.c (.l [.sl q a b c ex esz]) false none))):=by
 show N3 h p 0 (.sl q a b c ex esz) κ=_
 rw [QU,Dl]
 unfold Dq
 rw [GZ hp,AR,LF (xs:=[x]) (ys:=[.sl q a b c ex esz]) rfl,Es,Bm]; rfl
theorem UR {a b x y:V} {κ:List V->R}:BF 0 2 (.agg [a,b]) [x,y] κ=κ [a,b]:=rfl
theorem FS {κ:KV} {Φ:R->Prop}:∀ {r:R},r.sat (fun x=>∃ v h n,x = .rv v h n∧(κ v h n).sat Φ)->(BY r κ).sat Φ
 | .fail _,h=>h.elim
 | .both a b,h=>⟨FS h.1,FS h.2⟩
 | .ok _ _ _ _,h=>by obtain ⟨v,h,n,e,_⟩:=h; cases e
 | .rv _ _ _,h=>by obtain ⟨v,h,n,e,hs⟩:=h; cases e; exact hs
end
def Yd (es:List (V×V)) (t m c:Nat):Nat:=match Ez t m c es with
 | some (.int _ u)=>u
 | _=>0
def Ew (es:List (V×V)) (e:V×V):Itm:=match e.1 with
 | .agg [.int _ t,.str m c]=>⟨Yd es t m c,t,m,c⟩
 | _=>⟨0,0,0,0⟩
theorem VA {es:List (V×V)} {k:IntKind} {t m c:Nat} {x:V}:Ew es (.agg [.int k t,.str m c],x)=⟨Yd es t m c,t,m,c⟩:=rfl
theorem Pu {es:List (V×V)} (hS:∀ e∈es,CT e):∀ {ks:List Itm} {κ:List Itm->R},(∀ x∈ks,Po es x)->GR es ks.length (C7 ks) κ=κ ks
 | [],κ,_=>rfl
 | ⟨u,t,m,c⟩::ks,κ,h=>by
  obtain ⟨h1,h2,h3,h4⟩:=h _ (List.mem_cons_self ..)
  show br (Be .u32 .u32) (br (Nat.ble (Nat.succ t) 4294967296) (br (Nat.ble (Nat.succ c) (Nat.pow 256 m))
   (DM (.ks [.i,.s]) (.agg [.int .u32 t,.str m c]) es (fun r=>E6 r fun k u=>br (Be k .i64) (br (Nat.ble (Nat.succ u) 4611686018427387904) (GR es ks.length (C7 ks) fun zs=>κ (⟨u,t,m,c⟩::zs)) (.fail "")) (.fail "")) (.fail "")) (.fail "")) (.fail "")) (.fail "")=_
  rw [B3.2 rfl,AD,Ao.2 h1,AD,Ao.2 (show Nat.succ c≤Nat.pow 256 m from h2),AD,Gh hS,h4]
  show br (Be .i64 .i64) (br (Nat.ble (Nat.succ u) 4611686018427387904) (GR es ks.length (C7 ks) fun zs=>κ (⟨u,t,m,c⟩::zs)) (.fail "")) (.fail "")=_
  rw [B3.2 rfl,AD,Ao.2 h3,AD,Pu hS fun x hx=>h x (List.mem_cons_of_mem _ hx)]
theorem Nc:∀ {es:List (V×V)} {κ:R},(∀ e∈es,CT e)->Gx es κ=κ
 | [],κ,_=>rfl
 | (k,x)::es,κ,h=>by
  obtain ⟨t,m,c,hc,hk⟩:=h (k,x) (List.mem_cons_self ..)
  have hk:k = .agg [.int .u32 t,.str m c]:=hk
  subst hk
  show br (Be .u32 .u32) (br (Nat.ble (Nat.succ c) (Nat.pow 256 m)) (Gx es κ) (.fail "")) (.fail "")=_
  rw [B3.2 rfl,AD,Ao.2 (show Nat.succ c≤Nat.pow 256 m from hc),AD,Nc fun e he=>h e (List.mem_cons_of_mem _ he)]
theorem Vf {p:K4} {off len cap esz:Nat} {ex:Bool} {κ0:R} {κ:K4->Nat->Nat->Nat->Bool->Nat->R}:CK (.sl p off len cap ex esz) κ0 κ=κ p off len cap ex esz:=rfl
theorem Sf {g:Nat} {h:Heap} {n q cz lp pm:K4} {co lo clk:Nat} {cx lx:List V} {s1 s2:Bool} {es:List (V×V)} {bs:List Nat} {ks:List Itm} {prev:Option K4}
  (hcz:Ar cz h=some (.c (.l cx) s1 none)) (hco:cx[co]? = some (.ptr lp lo)) (hlp:Ar lp h=some (.c (.l lx) s2 none)) (hlo:lx[lo]? = some (.map pm)) (hpm:Ar pm h=some (.m es bs clk)) (hq:Ar q h=some (.c (.l (C7 ks)) false prev))
  (hk0:ks≠[]) (hbig:ks.length≤1000000) (hp1:O1 prev cz=true) (hp2:O1 prev lp=true) (hq1:q≠cz) (hq2:q≠lp) (hS:∀ e∈es,CT e) (hok:∀ x∈ks,Po es x) (hst:(CQ ks).Pairwise fun a b=>a.u<b.u) :
  JG g [.sl q 0 ks.length ks.length false 2,.fn g [.ptr cz co]] h n = .rv (.tup []) (AJ q (Ck prev h) (some (.c (.l (C7 (CQ ks))) false none))) n:=by
 have hl1:1≤ks.length:=by
  cases ks with
  | nil=>exact absurd rfl hk0
  | cons=>simp
 have hbq:∀ {p r:K4},p≠r->K4.beq p r=false:=fun {p r} hne=>by
  cases hb:K4.beq p r with
  | false=>rfl
  | true=>exact absurd (K4.beq_iff.1 hb) hne
 show br (Nat.beq g g) (HH cz h _) (.fail "")=_
 rw [Nat.beq_refl,AD,GA hcz]
 show CL co cx _=_
 rw [FV hco]
 show HH lp h _=_
 rw [GA hlp]
 show CL lo lx _=_
 rw [FV hlo]
 show KD pm h _=_
 rw [FN hpm]
 rw [Vf,Nat.beq_refl,AD,Ao.2 hl1,AD,Ao.2 hbig,AD,GA hq]
 rw [show O1 none q=true from rfl,AD,AD,hp1,AD,hp2,AD,hbq hq1,AR,hbq hq2,AR,Nc hS,Ai]
 have hfl:Nat.mul ks.length 2=(C7 ks).length:=by rw [DJ]; show ks.length*2=_; omega
 rw [hfl,EX]
 show GR es ks.length (C7 ks) _=_
 rw [Pu hS hok,Jk,Li hst,Hq,Dl]
 unfold Dq
 rw [GZ hq,AR,LF (xs:=C7 ks) (ys:=C7 (CQ ks)) (by rw [DJ,DJ,(Dc ks).length_eq]),Es,Bm]
def Qa:Rd:=fun c q x h n=>AN (.l [(.int .u32 0),(.str 0 0)]) h n fun z1 h n=>AP 2 z1 x h fun h=>Aa q h fun z2=>AB 2 z1 h fun z3=>BF 0 2 z3 [(.int .u32 0),(.str 0 0)] fun z4=>B4 false 1 2 z4 h n fun z5 h n=>AZ 2 24 z2 z5 h n fun z6 h n=>Ay q z6 h fun h=>.rv (.bool true) h n
def Xn (c:If) (z4:V) (t:S) (h:Heap) (n:K4):R :=
 Fy z4 h n fun z7 h n=>Ap 0 z7 fun z8=>AN (.l [(iW 0),(.str 0 0)]) h n fun z9 h n=>AP 2 z9 z8 h fun h=>g0 t fun za=>AB 2 z9 h fun zb=>Iw c za [zb] h n fun zc h n=>AO zc fun zd=>Aq zd (rT t h n)<|nR t h n
def Wj (c:If):S->Heap->K4->R:=fun t h n=>g2 t fun z4=>Ge z4 h n fun z5 h n=>Ap 0 z5 fun z6=>Aq z6 (Ac 1 (Xn c z4 t h n) fun t h n=>nR t h n)<|.ok (.exit 0) t h n
def PZ:Ent:=.code (fun l k=>Da l fun a0 l=>Da l fun a1 l=>GM l<|k (.mk (.mk a0 a1 U U) Q0 Q0 Q0 Q0 Q0 Q0 Q0))
 (fun c t h n=>g1 t fun z1=>Aa z1 h fun z2=>Kp z2 h n fun z3 h n=>Ac 0 (w2 t z3 fun t=>AE (Wj c) t h n) fun t h n=>nR t h n) (fun t h n=>.rv (.tup []) h n)
def Ws (ka:K3):Ent:=.code (fun l k=>Da l fun a0 l=>GM l<|k (.mk (.mk a0 U U U) Q0 Q0 Q0 Q0 Q0 Q0 Q0))
 (fun c t h n=>g0 t fun z1=>BY (c ka [(.nil .sl),z1] h n) fun z2 h n=>w1 t z2 fun t=>rT t h n) (fun t h n=>g1 t fun a0=>.rv a0 h n)
def Rf (kc ks:K3):Ent:=.code (fun l k=>Da l fun a0 l=>Da l fun a1 l=>GM l<|k (.mk (.mk a0 a1 U U) Q0 Q0 Q0 Q0 Q0 Q0 Q0))
 (fun c t h n=>g0 t fun z1=>BY (c kc [z1] h n) fun z2 h n=>g1 t fun z3=>A6 (c ks [z2,z3] h n) fun z4 h n=>w2 t z2 fun t=>rT t h n) (fun t h n=>g2 t fun a0=>.rv a0 h n)
def aT (y zb:K4) (zo:Nat) (it:K4):S:=.mk (.mk (.oth (.yl y)) (.ptr zb zo) (.ptr it 0) U) Q0 Q0 Q0 Q0 Q0 Q0 Q0
def Tv (it:K4) (h:Heap) (n:K4) (ss:List Itm) (L:V):Prop :=
 (ss=[]∧L = .nil .sl)∨(ss≠[] ∧ ∃ q prev,L = .sl q 0 ss.length ss.length false 2∧Ar q h=some (.c (.l (C7 ss)) false prev)∧it.toN<q.toN∧q.toN<n.toN ∧ ∀ r,prev=some r->it.toN<r.toN∧r≠q)
theorem Tv.mono {it n n':K4} {h h':Heap} {ss:List Itm} {L:V} (l:Tv it h n ss L) (hn:n.toN≤n'.toN) (hh:∀ p,it.toN<p.toN->p.toN<n.toN->Ar p h'=Ar p h):Tv it h' n' ss L:=by
 rcases l with l | ⟨h0,q,prev,h1,h2,h3,h4,h5⟩
 ·exact .inl l
 ·exact .inr ⟨h0,q,prev,h1,by rw [hh q h3 h4]; exact h2,h3,by omega,h5⟩
theorem Tm (A C:List Itm):C7 (A++C)=C7 A++C7 C:=by simp [C7]
theorem SP {it n n' p:K4} {h:Heap} {ss:List Itm} {i:Itm} {L:V} (hn:∀ k:K4->R,n.nx k=k n') (hn':n'.toN=n.toN+1) (hit:it.toN<n.toN) (hp:Ar p h=some (.c (.l [.int .u32 i.t,.str i.m i.c]) false none)) (hl:Tv it h n ss L) (hss:ss.length≤1000000000) :
  ∃ q k h',(∀ κ,AZ 2 24 L (.sl p 0 1 1 true 2) h n κ=κ (.sl q 0 k k false 2) h' n')∧(∀ r,r.toN≤it.toN->Ar r h'=Ar r h)∧Tv it h' n' (ss++[i]) (.sl q 0 k k false 2):=by
 rcases hl with ⟨h0,hL⟩ | ⟨h0,q,prev,hL,hq',hq0,hqn,hpr⟩
 ·subst h0 hL
  refine ⟨n,1,_,fun κ=>OI hn hp,fun r hr=>?_,.inr ⟨by simp,n,none,rfl,?_,hit,by omega,fun r hr=>by cases hr⟩⟩
  ·rw [Ah _ _ (ne_of_lt (by omega:r.toN<n.toN)).symm]
  ·rw [Am]; rfl
 ·subst hL
  refine ⟨n,ss.length+1,_,fun κ=>Qk hn hp hq' (DJ ss) hss,fun r hr=>?_,.inr ⟨by simp,n,some q,by simp,?_,hit,by omega,fun r hr=>?_⟩⟩
  ·rw [Ah _ _ (ne_of_lt (by omega:r.toN<n.toN)).symm,Ah _ _ (ne_of_lt (by omega:r.toN<q.toN)).symm]
   cases hprev:prev with
   | none=>rfl
   | some r'=>exact Ah _ _ (ne_of_lt (by have:=(hpr r' hprev).1; omega:r.toN<r'.toN)).symm
  ·rw [Am,Tm]; rfl
  ·cases hr
   exact ⟨hq0,ne_of_lt hqn⟩
theorem OP {p:K4} {h:Heap} {κ:Cu->R}:Bu p h κ=κ (Ar p h):=Bz _ _ _
section
variable {hb h:Heap} {n pm y bx it zb:K4} {zo clk:Nat} {es:List (V×V)} {bs:List Nat} {T:FC} {fA:FuncId} {its:List Nat} {mm:Nat}
theorem TE {L:V} {ss:List Itm} {seen:List Nat} {e:V×V} {b i:Nat} (hA:DP (B2 fA) T=some (.ap fA its Qa)) (hit:Ar it h=some (.it pm clk (b::seen) clk)) (hm:Ar pm h=some (.m es bs clk)) (hy:Ar y h=some (.lp fA bx)) (hbx:Ar bx h=some (.c (.l [L]) false none))
  (he:es[i]? = some e) (hb:bs[i]? = some b) (hnd:bs.Nodup) (hS:CT e) (hpb:pm.toN<bx.toN) (hby:bx.toN<y.toN) (hyi:y.toN<it.toN) (hin:it.toN<n.toN) (hl:Tv it h n ss L) (hss:ss.length≤1000000000) (hN:n.toN+4≤65535) :
  ∃ h' L' n',Xn (Bw T (mm+1)) (.ptr it 0) (aT y zb zo it) h n=nR (aT y zb zo it) h' n'∧n'.toN=n.toN+4∧(∀ p,p.toN≤it.toN->p≠bx->Ar p h'=Ar p h)∧Ar bx h'=some (.c (.l [L']) false none)∧Tv it h' n' (ss++[Ew es e]) L':=by
 obtain ⟨n1,hn1,hx1⟩:=K4.nx_u n (by omega)
 obtain ⟨n2,hn2,hx2⟩:=K4.nx_u n1 (by omega)
 obtain ⟨n3,hn3,hx3⟩:=K4.nx_u n2 (by omega)
 obtain ⟨n4,hn4,hx4⟩:=K4.nx_u n3 (by omega)
 obtain ⟨t,m,c,hc,hk⟩:=hS
 obtain ⟨k,x⟩:=e
 have hk:k = .agg [.int .u32 t,.str m c]:=hk
 subst hk
 have hfirst:∀ j,j<i->bs[j]? ≠ some b:=fun j hj e=>by
  obtain ⟨l1,e1⟩:=List.getElem?_eq_some_iff.1 e
  obtain ⟨l2,e2⟩:=List.getElem?_eq_some_iff.1 hb
  exact List.pairwise_iff_getElem.1 hnd j i l1 l2 hj (e1.trans e2.symm)
 have ent:∀ κ:KV,Fy (.ptr it 0) h n κ=κ (.tup [.agg [.int .u32 t,.str m c],x]) h n:=fun κ=>by
  show Rw it h (.fail "") _=_
  rw [Jp hit]
  show KD pm h _=_
  rw [FN hm]
  show br (Nat.beq clk clk) (G7 b es bs fun k x=>κ (.tup [k,x]) h n) (.fail "")=_
  rw [Nat.beq_refl,AD,La he hb hfirst]
 -- the key in a box
 obtain ⟨h1,eh1⟩:∃ h1,h1=AJ n (AJ n h (some (.c (.l [iW 0,.str 0 0]) false none))) (some (.c (.l [.int .u32 t,.str m c]) false none)):=⟨_,rfl⟩
 have g1:Ar n h1=some (.c (.l [.int .u32 t,.str m c]) false none):=by rw [eh1,Am]
 have g1':∀ p,p≠n->Ar p h1=Ar p h:=fun p hp=>by rw [eh1,Ah _ _ hp.symm,Ah _ _ hp.symm]
 -- the record is taken
 obtain ⟨h2,eh2⟩:∃ h2,h2=AJ y h1 none:=⟨_,rfl⟩
 have g2':∀ p,p≠y->Ar p h2=Ar p h1:=fun p hp=>by rw [eh2,Ah _ _ hp.symm]
 -- the key in a box of the round's own
 obtain ⟨h3,eh3⟩:∃ h3,h3=AJ n1 (AJ n1 h2 (some (.c (.l [.int .u32 0,.str 0 0]) false none))) (some (.c (.l [.int .u32 t,.str m c]) false none)):=⟨_,rfl⟩
 have g3:Ar n1 h3=some (.c (.l [.int .u32 t,.str m c]) false none):=by rw [eh3,Am]
 have g3':∀ p,p≠n1->Ar p h3=Ar p h2:=fun p hp=>by rw [eh3,Ah _ _ hp.symm,Ah _ _ hp.symm]
 obtain ⟨h4,eh4⟩:∃ h4,h4=AJ n2 h3 (some (.c (.l [.int .u32 t,.str m c]) false none)):=⟨_,rfl⟩
 have g4:Ar n2 h4=some (.c (.l [.int .u32 t,.str m c]) false none):=by rw [eh4,Am]
 have g4':∀ p,p≠n2->Ar p h4=Ar p h3:=fun p hp=>by rw [eh4,Ah _ _ hp.symm]
 have old:∀ p,p.toN<n.toN->p≠y->Ar p h4=Ar p h:=fun p hp hpy=>by
  rw [g4' p (ne_of_lt (by omega)),g3' p (ne_of_lt (by omega)),g2' p hpy,g1' p (ne_of_lt hp)]
 have hbx4:Ar bx h4=some (.c (.l [L]) false none):=by rw [old bx (by omega) (ne_of_lt hby)]; exact hbx
 have hl4:Tv it h4 n3 ss L:=hl.mono (by omega) fun p hp1 hp2=>old p hp2 (ne_of_lt (by omega:y.toN<p.toN)).symm
 obtain ⟨q,k,h5,happ,hfr,hl5⟩:=SP (i:=⟨Yd es t m c,t,m,c⟩) hx4 hn4 (by omega) g4 hl4 hss
 obtain ⟨h6,eh6⟩:∃ h6,h6=AJ bx h5 (some (.c (.l [.sl q 0 k k false 2]) false none)):=⟨_,rfl⟩
 obtain ⟨h7,eh7⟩:∃ h7,h7=AJ y h6 (some (.lp fA bx)):=⟨_,rfl⟩
 have hbx5:Ar bx h5=some (.c (.l [L]) false none):=by rw [hfr bx (by omega)]; exact hbx4
 have round:Bw T (mm+1) (B2 fA) [.oth .no,.ptr bx 0,.agg [.int .u32 t,.str m c]] h2 n1 = .rv (.bool true) h6 n4:=by
  rw [Et,hA]
  show Qa (Bw T mm) (.ptr bx 0) (.agg [.int .u32 t,.str m c]) h2 n1=_
  unfold Qa
  rw [LK hx2]
  show AP 2 (.ptr n1 0) (.agg [.int .u32 t,.str m c]) _ _=_
  rw [LL (x:=.int .u32 0) (y:=.str 0 0) (Am _ _ _),←eh3]
  show Aa (.ptr bx 0) h3 _=_
  rw [KQ (v:=L) (by rw [←g4' bx (ne_of_lt (by omega))]; exact hbx4) rfl,JJ g3,UR,Pe hx3,←eh4,happ,Uc hbx5,←eh6]
 refine ⟨h7,.sl q 0 k k false 2,n4,?_,by omega,fun p hp hpb'=>?_,?_,?_⟩
 ·unfold Xn
  rw [ent,UZ,LK hx1]
  show AP 2 (.ptr n 0) (.agg [.int .u32 t,.str m c]) _ _=_
  rw [LL (x:=iW 0) (y:=.str 0 0) (Am _ _ _),←eh1]
  show AB 2 (.ptr n 0) h1 _=_
  rw [JJ g1]
  show Bu y h1 _=_
  rw [OP,g1' y (ne_of_lt (by omega)),hy]
  show Bx y h1 none _=_
  rw [Dt,←eh2]
  show BY (Bw T (mm+1) (B2 fA) [.oth .no,.ptr bx 0,.agg [.int .u32 t,.str m c]] h2 n1) _=_
  rw [round]
  show Bx y h6 (some (.lp fA bx)) _=_
  rw [Dt,←eh7]
  rfl
 ·by_cases hpy:p=y
  ·subst hpy; rw [eh7,Am,hy]
  ·rw [eh7,Ah _ _ (Ne.symm hpy),eh6,Ah _ _ (Ne.symm hpb'),hfr p hp,old p (by omega) hpy]
 ·rw [eh7,Ah _ _ (ne_of_lt hby).symm,eh6,Am]
 ·rw [VA]
  refine hl5.mono (Nat.le_refl _) fun p hp1 hp2=>?_
  rw [eh7,Ah _ _ (ne_of_lt (by omega:y.toN<p.toN)),eh6,Ah _ _ (ne_of_lt (by omega:bx.toN<p.toN))]
end
section
variable {hs0:Heap} {pm y bx it zb:K4} {zo clk:Nat} {es:List (V×V)} {bs:List Nat} {T:FC} {fA:FuncId} {its:List Nat} {mm:Nat}
theorem VX (hA:DP (B2 fA) T=some (.ap fA its Qa)) (hm:Ar pm hs0=some (.m es bs clk)) (hy:Ar y hs0=some (.lp fA bx)) (hlen:es.length=bs.length) (hnd:bs.Nodup) (hlt:Hm clk bs=true) (hS:∀ e∈es,CT e)
  (hpb:pm.toN<bx.toN) (hby:bx.toN<y.toN) (hyi:y.toN<it.toN) {N:Nat} (hN:N≤65535) {all:List Itm} (hbig:es.length≤1000000) :
  ∀ (j k:Nat) (left:List ((V×V)×Nat)) (L:V) (h:Heap) (n:K4) (seen:List Nat) (ss:List Itm),left.length=j->j<k->(∀ p,p.toN<it.toN->p≠bx->Ar p h=Ar p hs0)->Ar bx h=some (.c (.l [L]) false none)->Ar it h=some (.it pm clk seen clk)->it.toN<n.toN->Tv it h n ss L →
   n.toN+4*j≤N->ss.length+j≤es.length->(left.map (·.2)).Nodup->(∀ y∈left,Dd y.2 seen=false∧y.2∈bs)->(∀ (i:Nat) e b,es[i]? = some e->bs[i]? = some b->Dd b seen=false->(e,b)∈left)->(ss++left.map fun y=>Ew es y.1).Perm all →
   (E2 (Wj (Bw T (mm+1))) k (aT y zb zo it) h n).sat fun r=>∃ L' h' n' ss',r = .ok (.exit 0) (aT y zb zo it) h' n'∧(∀ p,p.toN<it.toN->p≠bx->Ar p h'=Ar p hs0)∧Ar bx h'=some (.c (.l [L']) false none)∧Tv it h' n' ss' L'∧it.toN<n'.toN∧n'.toN≤N∧ss'.Perm all:=by
 intro j
 induction j with
 | zero =>
  intro k left L h n seen ss hlj hk hold hbx hit hin hl hnN hsl hI1 hI2 hI3 hI5
  obtain ⟨k,rfl⟩:∃ k',k=k'+1:=⟨k - 1,by omega⟩
  obtain rfl:=List.eq_nil_of_length_eq_zero hlj
  rw [Ch]
  show R.sat _ (SF (Wj (Bw T (mm+1)) (aT y zb zo it) h n) (E2 (Wj (Bw T (mm+1))) k))
  apply JM
  show R.sat _ (Ge (.ptr it 0) h n fun z5 h n=>Ap 0 z5 fun z6=>Aq z6 (Ac 1 (Xn (Bw T (mm+1)) (.ptr it 0) (aT y zb zo it) h n) fun t h n=>nR t h n)<|.ok (.exit 0) (aT y zb zo it) h n)
  unfold Ge
  show R.sat _ (Rw it h _ _)
  rw [Jp hit]
  show R.sat _ (KD pm h _)
  rw [FN (by rw [hold pm (by omega) (ne_of_lt hpb)]; exact hm),hlt,AD,show Nat.ble clk clk=true from Ao.2 (Nat.le_refl _),AD]
  refine FX hlen (fun _=>?_) fun i e b he hb hn=>by have:=hI3 i e b he hb hn; simp at this
  refine ⟨L,h,n,ss,rfl,hold,hbx,hl,hin,by omega,?_⟩
  simpa using hI5
 | succ j ih =>
  intro k left L h n seen ss hlj hk hold hbx hit hin hl hnN hsl hI1 hI2 hI3 hI5
  obtain ⟨k,rfl⟩:∃ k',k=k'+1:=⟨k - 1,by omega⟩
  rw [Ch]
  show R.sat _ (SF (Wj (Bw T (mm+1)) (aT y zb zo it) h n) (E2 (Wj (Bw T (mm+1))) k))
  apply JM
  show R.sat _ (Ge (.ptr it 0) h n fun z5 h n=>Ap 0 z5 fun z6=>Aq z6 (Ac 1 (Xn (Bw T (mm+1)) (.ptr it 0) (aT y zb zo it) h n) fun t h n=>nR t h n)<|.ok (.exit 0) (aT y zb zo it) h n)
  unfold Ge
  show R.sat _ (Rw it h _ _)
  rw [Jp hit]
  show R.sat _ (KD pm h _)
  rw [FN (by rw [hold pm (by omega) (ne_of_lt hpb)]; exact hm),hlt,AD,show Nat.ble clk clk=true from Ao.2 (Nat.le_refl _),AD]
  refine FX hlen (fun hall=>?_) fun i e b he hb hn=>?_
  ·exfalso
   cases left with
   | nil=>simp at hlj
   | cons z left =>
    obtain ⟨h1,h2⟩:=hI2 z (List.mem_cons_self ..)
    rw [hall _ h2] at h1; cases h1
  ·have hmem:=hI3 i e b he hb hn
   obtain ⟨l1,l2,rfl⟩:=List.append_of_mem hmem
   have hee:e∈es:=List.mem_of_getElem? he
   unfold Rt
   rw [Dt]
   obtain ⟨h1,eh1⟩:∃ h1,h1=AJ it h (some (.it pm clk (b::seen) clk)):=⟨_,rfl⟩
   rw [←eh1]
   have g1:Ar it h1=some (.it pm clk (b::seen) clk):=by rw [eh1,Am]
   have g1':∀ p,p≠it->Ar p h1=Ar p h:=fun p hp=>by rw [eh1,Ah _ _ hp.symm]
   have hold1:∀ p,p.toN<it.toN->p≠bx->Ar p h1=Ar p hs0:=fun p hp hpb'=>by rw [g1' p (ne_of_lt hp),hold p hp hpb']
   have hbx1:Ar bx h1=some (.c (.l [L]) false none):=by rw [g1' bx (ne_of_lt (by omega))]; exact hbx
   have hl1:Tv it h1 n ss L:=hl.mono (Nat.le_refl _) fun p hp1 hp2=>g1' p (ne_of_lt hp1).symm
   obtain ⟨h',L',n',hR,hn1,hfr,hbx',hl'⟩:=TE (zb:=zb) (zo:=zo) (mm:=mm) (n:=n) (L:=L) (ss:=ss) (e:=e) hA g1 (by rw [hold1 pm (by omega) (ne_of_lt hpb)]; exact hm) (by rw [hold1 y hyi (ne_of_lt hby).symm]; exact hy) hbx1 he hb hnd (hS e hee) hpb hby hyi hin hl1 (by omega) (by omega)
   obtain ⟨ek,ex⟩:=e
   show R.sat _ (Ac 1 (Xn (Bw T (mm+1)) (.ptr it 0) (aT y zb zo it) h1 n) fun t h n=>nR t h n)
   rw [hR]
   show R.sat _ (E2 (Wj (Bw T (mm+1))) k (aT y zb zo it) h' n')
   have hI1':(l1.map (·.2)++b::l2.map (·.2)).Nodup:=by simpa using hI1
   have hI1'':b ∉ l1.map (·.2)∧b ∉ l2.map (·.2)∧(l1.map (·.2)++l2.map (·.2)).Nodup:=by
    have hp:(b::(l1.map (·.2)++l2.map (·.2))).Nodup:=(List.perm_middle.nodup_iff).1 hI1'
    obtain ⟨q1,q2⟩:=List.nodup_cons.1 hp
    exact ⟨fun h=>q1 (List.mem_append_left _ h),fun h=>q1 (List.mem_append_right _ h),q2⟩
   refine ih k (l1++l2) L' h' n' (b::seen) (ss++[Ew es (ek,ex)]) (by simp at hlj ⊢; omega) (by omega) (fun p hp hpb'=>by rw [hfr p (by omega) hpb',hold1 p hp hpb']) hbx' (by rw [hfr it (Nat.le_refl _) (ne_of_lt (by omega)).symm]; exact g1) (by omega) hl' (by omega) (by rw [List.length_append]; simp; omega) (by simpa using hI1''.2.2)
    (fun z hz=>?_) (fun i' e' b' he' hb' hn'=>?_) ?_
   ·have hz':z∈l1++((ek,ex),b)::l2:=by
     rcases List.mem_append.1 hz with h | h
     ·exact List.mem_append_left _ h
     ·exact List.mem_append_right _ (List.mem_cons_of_mem _ h)
    obtain ⟨y1,y2⟩:=hI2 z hz'
    refine ⟨?_,y2⟩
    show br (Nat.beq b z.2) true (Dd z.2 seen)=false
    have hne:b≠z.2:=fun e=>by
     rcases List.mem_append.1 hz with h | h
     ·exact hI1''.1 (List.mem_map.2 ⟨z,h,e.symm⟩)
     ·exact hI1''.2.1 (List.mem_map.2 ⟨z,h,e.symm⟩)
    have:Nat.beq b z.2=false:=by
     cases hx:Nat.beq b z.2 with
     | false=>rfl
     | true=>exact absurd (Nat.eq_of_beq_eq_true hx) hne
    rw [this]; exact y1
   ·have hn':br (Nat.beq b b') true (Dd b' seen)=false:=hn'
    cases hx:Nat.beq b b' with
    | true=>rw [hx] at hn'; cases hn'
    | false =>
     rw [hx] at hn'
     have:=hI3 i' e' b' he' hb' hn'
     rcases List.mem_append.1 this with h | h
     ·exact List.mem_append_left _ h
     ·rcases List.mem_cons.1 h with h | h
      ·cases h; rw [Nat.beq_refl] at hx; cases hx
      ·exact List.mem_append_right _ h
   ·refine List.Perm.trans ?_ hI5
    rw [List.map_append,List.map_append,List.map_cons,List.append_assoc]
    refine List.Perm.append_left _ ?_
    show (Ew es (ek,ex)::(l1.map (fun y=>Ew es y.1)++l2.map fun y=>Ew es y.1)).Perm (l1.map (fun y=>Ew es y.1)++Ew es (ek,ex)::l2.map fun y=>Ew es y.1)
    exact List.perm_middle.symm
end
section
variable {hs:Heap} {n0 pm zb:K4} {zo clk:Nat} {es:List (V×V)} {bs:List Nat} {T:FC} {fA:FuncId} {its:List Nat} {mm gk:Nat} {xz:List V} {s0:Bool} {p0:Option K4}
theorem Vk (hA:DP (B2 fA) T=some (.ap fA its Qa)) (hK:DP (B2 gk) T=some PZ) (hits:∀ κ,HY gk its κ=κ) (hzb:Ar zb hs=some (.c (.l xz) s0 p0)) (hzo:xz[zo]? = some (.map pm)) (hm:Ar pm hs=some (.m es bs clk)) (hlen:es.length=bs.length) (hnd:bs.Nodup) (hlt:Hm clk bs=true) (hS:∀ e∈es,CT e)
  (hzn:zb.toN<n0.toN) (hpn:pm.toN<n0.toN) {N:Nat} (hN:N≤65535) (hn:n0.toN+3+4*es.length≤N) (hbig:es.length≤1000000) :
  (Bw T (mm+3) (B2 fA) [.nil .sl,.fn gk [.ptr zb zo]] hs n0).sat fun r=>∃ L h' n' it ss,r = .rv L h' n'∧(∀ p,p.toN<n0.toN->Ar p h'=Ar p hs)∧n0.toN<it.toN∧it.toN<n'.toN∧Tv it h' n' ss L∧n'.toN≤N∧ss.Perm (es.map (Ew es)):=by
 obtain ⟨n1,hn1,hx1⟩:=K4.nx_u n0 (by omega)
 obtain ⟨n2,hn2,hx2⟩:=K4.nx_u n1 (by omega)
 obtain ⟨n3,hn3,hx3⟩:=K4.nx_u n2 (by omega)
 rw [Et,hA]
 show R.sat _ (HY gk its (Bx n0 hs (some (.c (.l [.nil .sl]) false none)) fun h=>n0.nx fun n1=>Bx n1 h (some (.lp fA n0)) fun h=>n1.nx fun n2 =>
   BY (Bw T (mm+2) (B2 gk) (.oth (.yl n1)::[.ptr zb zo]) h n2) fun _ h m =>
    Bu n1 h fun o=>Yf o (HH n0 h fun cs _ _=>Gd cs 0 fun sv=>Bx n0 h none fun h=>Bx n1 h none fun h=>.rv sv h m)))
 rw [hits,Dt,hx1,Dt,hx2]
 obtain ⟨h2,eh2⟩:∃ h2,h2=AJ n1 (AJ n0 hs (some (.c (.l [.nil .sl]) false none))) (some (.lp fA n0)):=⟨_,rfl⟩
 rw [←eh2]
 have n01:n0≠n1:=ne_of_lt (by omega)
 have gy:Ar n1 h2=some (.lp fA n0):=by rw [eh2,Am]
 have gb:Ar n0 h2=some (.c (.l [.nil .sl]) false none):=by rw [eh2,Ah _ _ n01.symm,Am]
 have g2':∀ p,p.toN<n0.toN->Ar p h2=Ar p hs:=fun p hp=>by rw [eh2,Ah _ _ (ne_of_lt (by omega:p.toN<n1.toN)).symm,Ah _ _ (ne_of_lt hp).symm]
 apply FS
 rw [Et,hK]
 apply Ht
 show R.sat _ (Aa (.ptr zb zo) h2 _)
 rw [KQ (by rw [g2' zb hzn]; exact hzb) (v:=.map pm) hzo]
 show R.sat _ (KD pm h2 _)
 rw [FN (by rw [g2' pm hpn]; exact hm)]
 show R.sat _ (Gg h2 n2 (.it pm clk [] clk) _)
 rw [Fp hx3]
 obtain ⟨h3,eh3⟩:∃ h3,h3=AJ n2 h2 (some (.it pm clk [] clk)):=⟨_,rfl⟩
 rw [←eh3]
 have g3':∀ p,p.toN<n2.toN->Ar p h3=Ar p h2:=fun p hp=>by rw [eh3,Ah _ _ (ne_of_lt hp).symm]
 show R.sat _ (Ac 0 (E2 (Wj (Bw T (mm+1))) 1000000000 (aT n1 zb zo n2) h3 n3) _)
 apply HJ
 have key:=VX (hs0:=h3) (zb:=zb) (zo:=zo) (mm:=mm) (it:=n2) (y:=n1) (bx:=n0) (N:=N) (all:=es.map (Ew es)) hA (by rw [g3' pm (by omega),g2' pm hpn]; exact hm) (by rw [g3' n1 (by omega)]; exact gy) hlen hnd hlt hS hpn (by omega) (by omega) hN hbig es.length 1000000000 (es.zip bs) (.nil .sl) h3 n3 [] [] (by rw [List.length_zip]; omega) (by omega) (fun p _ _=>rfl) (by rw [g3' n0 (by omega)]; exact gb) (by rw [eh3,Am]) (by omega) (.inl ⟨rfl,rfl⟩) (by omega) (by simp)
  (by rw [List.map_snd_zip (by omega)]; exact hnd) (fun y hy=>⟨rfl,(List.of_mem_zip hy).2⟩) (fun i e b he hb _=>List.mem_of_getElem? (List.getElem?_zip_eq_some.2 ⟨he,hb⟩)) (by
   have e1:(es.zip bs).map (fun y=>Ew es y.1)=es.map (Ew es):=by
    rw [show (fun y:(V×V)×Nat=>Ew es y.1)=Ew es ∘ Prod.fst from rfl,←List.map_map,List.map_fst_zip (by omega)]
   rw [List.nil_append,e1])
 refine R.sat_mono ?_ key
 rintro r ⟨L',h',n',ss',rfl,hold,hbx,hl,hin,hn',hperm⟩
 refine ⟨.tup [],h',n',rfl,?_⟩
 show R.sat _ (Bu n1 h' _)
 rw [OP,hold n1 (by omega) n01.symm,g3' n1 (by omega),gy]
 show R.sat _ (HH n0 h' _)
 rw [GA hbx]
 show R.sat _ (Bx n0 h' none _)
 rw [Dt]
 show R.sat _ (Bx n1 _ none _)
 rw [Dt]
 refine ⟨L',_,n',n2,ss',rfl,fun p hp=>?_,by omega,hin,hl.mono (Nat.le_refl _) fun p hp1 hp2=>?_,hn',hperm⟩
 ·rw [Ah _ _ (ne_of_lt (by omega:p.toN<n1.toN)).symm,Ah _ _ (ne_of_lt hp).symm,hold p (by omega) (ne_of_lt hp),g3' p (by omega),g2' p hp]
 ·rw [Ah _ _ (ne_of_lt (by omega:n1.toN<p.toN)),Ah _ _ (ne_of_lt (by omega:n0.toN<p.toN))]
end
section
variable {hs:Heap} {n0 pm zb cz lp:K4} {zo co lo clk:Nat} {es:List (V×V)} {bs:List Nat} {T:FC} {fA:FuncId} {its:List Nat} {mm gk g:Nat} {xz cx lx:List V} {s0 s1 s2:Bool} {p0:Option K4} {f:FuncId} {kc ks:K3}
theorem Pz (hf:DP (B2 f) T=some (Rf kc ks)) (hc:DP kc T=some (Ws (B2 fA))) (hks:DP ks T=some (.prim (GD g))) (hA:DP (B2 fA) T=some (.ap fA its Qa)) (hK:DP (B2 gk) T=some PZ) (hits:∀ κ,HY gk its κ=κ)
  (hzb:Ar zb hs=some (.c (.l xz) s0 p0)) (hzo:xz[zo]? = some (.map pm)) (hm:Ar pm hs=some (.m es bs clk)) (hcz:Ar cz hs=some (.c (.l cx) s1 none)) (hco:cx[co]? = some (.ptr lp lo)) (hlp:Ar lp hs=some (.c (.l lx) s2 none)) (hlo:lx[lo]? = some (.map pm))
  (hlen:es.length=bs.length) (hnd:bs.Nodup) (hlt:Hm clk bs=true) (hS:∀ e∈es,CT e) (hok:∀ x∈es.map (Ew es),Po es x) (hst:(CQ (es.map (Ew es))).Pairwise fun a b=>a.u<b.u)
  (hzn:zb.toN<n0.toN) (hpn:pm.toN<n0.toN) (hcn:cz.toN<n0.toN) (hln:lp.toN<n0.toN) {N:Nat} (hN:N≤65535) (hn:n0.toN+3+4*es.length≤N) (hbig:es.length≤1000000) :
  (Bw T (mm+5) (B2 f) [.fn gk [.ptr zb zo],.fn g [.ptr cz co]] hs n0).sat fun r=>∃ v h' n',r = .rv v h' n'∧(∀ p,p.toN<n0.toN->Ar p h'=Ar p hs)∧n'.toN≤N ∧
   ((es=[]∧v = .nil .sl)∨(es≠[] ∧ ∃ q,v = .sl q 0 es.length es.length false 2∧Ar q h'=some (.c (.l (C7 (CQ (es.map (Ew es))))) false none)∧n0.toN≤q.toN)):=by
 rw [Et,hf]
 apply Ht
 show R.sat _ (BY (Bw T (mm+4) kc [.fn gk [.ptr zb zo]] hs n0) _)
 apply FS
 rw [Et,hc]
 apply Ht
 show R.sat _ (BY (Bw T (mm+3) (B2 fA) [.nil .sl,.fn gk [.ptr zb zo]] hs n0) _)
 apply FS
 refine R.sat_mono ?_ (Vk (mm:=mm) hA hK hits hzb hzo hm hlen hnd hlt hS hzn hpn hN hn hbig)
 rintro r ⟨L,h',n',it,ss,rfl,hold,hit,hin,hl,hn',hperm⟩
 refine ⟨L,h',n',rfl,L,h',n',rfl,?_⟩
 show R.sat _ (A6 (Bw T (mm+4) ks [L,.fn g [.ptr cz co]] h' n') _)
 rw [Et,hks]
 have hlen':ss.length=es.length:=by rw [hperm.length_eq,List.length_map]
 rcases hl with ⟨h0,hL⟩ | ⟨h0,q,prev,hL,hq,hq0,hqn,hpr⟩
 ·subst h0 hL
  have he:es=[]:=by
   cases es with
   | nil=>rfl
   | cons=>simp at hlen'
  exact ⟨.nil .sl,h',n',rfl,hold,hn',.inl ⟨he,rfl⟩⟩
 ·subst hL
  have he:es≠[]:=fun e=>by
   subst e
   exact h0 (List.eq_nil_of_length_eq_zero hlen')
  have hone:CQ ss=CQ (es.map (Ew es)):=LC hst (Dc _) ((Dc ss).trans hperm) (I2 ss)
  have hnp:∀ p:K4,p.toN<n0.toN->O1 prev p=true:=fun p hp=>by
   cases hprev:prev with
   | none=>rfl
   | some r =>
    have hb:K4.beq r p=false:=by
     cases hb:K4.beq r p with
     | false=>rfl
     | true=>have:=K4.beq_iff.1 hb; have:=(hpr r hprev).1; subst r; omega
    show br (K4.beq r p) false true=true
    rw [hb]; rfl
  show R.sat _ (A6 (L9 (JG g [.sl q 0 ss.length ss.length false 2,.fn g [.ptr cz co]] h' n')) _)
  rw [Sf (by rw [hold cz hcn]; exact hcz) hco (by rw [hold lp hln]; exact hlp) hlo (by rw [hold pm hpn]; exact hm) hq h0 (by omega) (hnp cz hcn) (hnp lp hln) (fun e=>by subst e; omega) (fun e=>by subst e; omega) hS (fun x hx=>hok x (hperm.mem_iff.1 hx)) (by rw [hone]; exact hst)]
  refine ⟨.sl q 0 ss.length ss.length false 2,_,n',rfl,fun p hp=>?_,hn',.inr ⟨he,q,by rw [hlen'],by rw [Am,hone],by omega⟩⟩
  rw [Ah _ _ (ne_of_lt (by omega:p.toN<q.toN)).symm]
  cases hprev:prev with
  | none=>exact hold p hp
  | some r =>
   have:=(hpr r hprev).1
   show Ar p (AJ r h' none)=_
   rw [Ah _ _ (ne_of_lt (by omega:p.toN<r.toN)).symm]
   exact hold p hp
end
def Itm.ent (x:Itm):V×V:=(.agg [.int .u32 x.t,.str x.m x.c],.int .i64 x.u)
def OY (es:List (V×V)):(List Itm->R)->R :=
 @List.rec (V×V) (fun _=>(List Itm->R)->R) (fun κ=>κ []) (fun e _ ih κ=>@Prod.rec V V (fun _=>R) (fun k x=>asAgg k fun l=>Da l fun a l=>Da l fun b l=>GM l (E6 a fun kd t=>br (Be kd .u32) (br (Nat.ble (Nat.succ t) 4294967296) (Bd b fun m c=>br (Nat.ble (Nat.succ c) (Nat.pow 256 m))
  (E6 x fun ku u=>br (Be ku .i64) (br (Nat.ble (Nat.succ u) 4611686018427387904) (ih fun zs=>κ (⟨u,t,m,c⟩::zs)) (.fail "")) (.fail "")) (.fail "")) (.fail "")) (.fail ""))) e) es
def XV (x:Itm):Prop:=x.t<4294967296∧x.c<256 ^ x.m∧x.u<4611686018427387904
theorem Lp:∀ {es:List (V×V)} {κ:List Itm->R},(OY es κ).good->∃ its,es=its.map Itm.ent∧(∀ x∈its,XV x)∧OY es κ=κ its
 | [],κ,_=>⟨[],rfl,fun x hx=>by simp at hx,rfl⟩
 | (k,x)::es,κ,h=>by
  have e0:OY ((k,x)::es) κ=asAgg k fun l=>Da l fun a l=>Da l fun b l=>GM l (E6 a fun kd t=>br (Be kd .u32) (br (Nat.ble (Nat.succ t) 4294967296) (Bd b fun m c=>br (Nat.ble (Nat.succ c) (Nat.pow 256 m))
   (E6 x fun ku u=>br (Be ku .i64) (br (Nat.ble (Nat.succ u) 4611686018427387904) (OY es fun zs=>κ (⟨u,t,m,c⟩::zs)) (.fail "")) (.fail "")) (.fail "")) (.fail "")) (.fail "")):=rfl
  rw [e0] at h ⊢
  obtain ⟨l,rfl,e1⟩:=H5 h
  rw [e1] at h ⊢
  obtain ⟨a,l,rfl,e2⟩:=Br h
  rw [e2] at h ⊢
  obtain ⟨b,l,rfl,e3⟩:=Br h
  rw [e3] at h ⊢
  obtain ⟨rfl,e4⟩:=Cj h
  rw [e4] at h ⊢
  obtain ⟨kd,t,rfl,e5⟩:=F1 h
  rw [e5] at h ⊢
  obtain ⟨hk,e6⟩:=Ak h
  rw [e6] at h ⊢
  have:=B3.1 hk
  subst this
  obtain ⟨ht,e7⟩:=Ak h
  rw [e7] at h ⊢
  obtain ⟨m,c,rfl,e8⟩:=BA h
  rw [e8] at h ⊢
  obtain ⟨hc,e9⟩:=Ak h
  rw [e9] at h ⊢
  obtain ⟨ku,u,rfl,e10⟩:=F1 h
  rw [e10] at h ⊢
  obtain ⟨hk2,e11⟩:=Ak h
  rw [e11] at h ⊢
  have:=B3.1 hk2
  subst this
  obtain ⟨hu,e12⟩:=Ak h
  rw [e12] at h ⊢
  obtain ⟨its,rfl,hok,e13⟩:=Lp h
  refine ⟨⟨u,t,m,c⟩::its,rfl,fun x hx=>?_,e13⟩
  rcases List.mem_cons.1 hx with rfl | hx
  ·exact ⟨Ao.1 ht,Ao.1 hc,Ao.1 hu⟩
  ·exact hok x hx
def I8 (t m c:Nat) (tl:List Itm) (κ:R):R :=
 @List.rec Itm (fun _=>R) κ (fun y _ ih=>@Itm.rec (fun _=>R) (fun _ t' m' c'=>br (Nat.beq c c') (br (Nat.beq m m') (br (Nat.beq t t') (.fail "") ih) ih) ih) y) tl
def OL (l:List Itm) (κ:R):R:=@List.rec Itm (fun _=>R) κ (fun x tl ih=>@Itm.rec (fun _=>R) (fun _ t m c=>I8 t m c tl ih) x) l
def Xw (x y:Itm):Prop:=¬ (x.t=y.t∧x.m=y.m∧x.c=y.c)
theorem L3 {x:Itm}:∀ {tl:List Itm} {κ:R},(I8 x.t x.m x.c tl κ).good->(∀ y∈tl,Xw x y)∧I8 x.t x.m x.c tl κ=κ
 | [],κ,_=>⟨fun y hy=>by simp at hy,rfl⟩
 | ⟨u,t,m,c⟩::tl,κ,h=>by
  have e0:I8 x.t x.m x.c (⟨u,t,m,c⟩::tl) κ=br (Nat.beq x.c c) (br (Nat.beq x.m m) (br (Nat.beq x.t t) (.fail "") (I8 x.t x.m x.c tl κ)) (I8 x.t x.m x.c tl κ)) (I8 x.t x.m x.c tl κ):=rfl
  rw [e0] at h ⊢
  have step:Xw x ⟨u,t,m,c⟩->(I8 x.t x.m x.c tl κ).good->(∀ y∈(⟨u,t,m,c⟩::tl:List Itm),Xw x y)∧I8 x.t x.m x.c tl κ=κ:=fun hu hg=>by
   obtain ⟨h1,h2⟩:=L3 hg
   refine ⟨fun y hy=>?_,h2⟩
   rcases List.mem_cons.1 hy with rfl | hy
   ·exact hu
   ·exact h1 y hy
  cases h1:Nat.beq x.c c with
  | false =>
   rw [h1,AR] at h
   rw [AR]
   exact step (fun e=>by rw [show x.c=c from e.2.2,Nat.beq_refl] at h1; cases h1) h
  | true =>
   rw [h1,AD] at h
   rw [AD]
   cases h2:Nat.beq x.m m with
   | false =>
    rw [h2,AR] at h
    rw [AR]
    exact step (fun e=>by rw [show x.m=m from e.2.1,Nat.beq_refl] at h2; cases h2) h
   | true =>
    rw [h2,AD] at h
    rw [AD]
    cases h3:Nat.beq x.t t with
    | true=>rw [h3] at h; exact h.elim
    | false =>
     rw [h3,AR] at h
     rw [AR]
     exact step (fun e=>by rw [show x.t=t from e.1,Nat.beq_refl] at h3; cases h3) h
theorem KU:∀ {l:List Itm} {κ:R},(OL l κ).good->l.Pairwise Xw∧OL l κ=κ
 | [],κ,_=>⟨List.Pairwise.nil,rfl⟩
 | x::l,κ,h=>by
  have e0:OL (x::l) κ=I8 x.t x.m x.c l (OL l κ):=rfl
  rw [e0] at h ⊢
  obtain ⟨h1,e1⟩:=L3 h
  rw [e1] at h ⊢
  obtain ⟨h2,e2⟩:=KU h
  exact ⟨List.pairwise_cons.2 ⟨h1,h2⟩,e2⟩
theorem JE:∀ {its:List Itm},its.Pairwise Xw->∀ {x:Itm},x∈its->Ez x.t x.m x.c (its.map Itm.ent)=some (.int .i64 x.u)
 | [],_,x,hx=>by simp at hx
 | y::its,hp,x,hx=>by
  obtain ⟨h1,h2⟩:=List.pairwise_cons.1 hp
  have e0:Ez x.t x.m x.c ((y::its).map Itm.ent)=if x.t=y.t∧x.m=y.m∧x.c=y.c then some (.int .i64 y.u) else Ez x.t x.m x.c (its.map Itm.ent):=rfl
  rw [e0]
  rcases List.mem_cons.1 hx with rfl | hx
  ·rw [if_pos ⟨rfl,rfl,rfl⟩]
  ·rw [if_neg fun e=>h1 x hx ⟨e.1.symm,e.2.1.symm,e.2.2.symm⟩]
   exact JE h2 hx
theorem QH {its:List Itm} (h:∀ x∈its,XV x):∀ e∈its.map Itm.ent,CT e:=fun e he=>by
 obtain ⟨x,hx,rfl⟩:=List.mem_map.1 he
 exact ⟨x.t,x.m,x.c,(h x hx).2.1,rfl⟩
theorem VK {its:List Itm} (hp:its.Pairwise Xw):(its.map Itm.ent).map (Ew (its.map Itm.ent))=its:=by
 rw [List.map_map]
 have:∀ x∈its,(Ew (its.map Itm.ent) ∘ Itm.ent) x=x:=fun x hx=>by
  show (⟨Yd (its.map Itm.ent) x.t x.m x.c,x.t,x.m,x.c⟩:Itm)=x
  unfold Yd
  rw [JE hp hx]
 rw [List.map_congr_left this,List.map_id']
def VQ (bs:List Nat):Bool:=@List.rec Nat (fun _=>Bool) true (fun b tl ih=>@List.rec Nat (fun _=>Bool) ih (fun b2 _ _=>br (Nat.ble (Nat.succ b) b2) ih false) tl) bs
theorem RU:∀ {bs:List Nat},VQ bs=true->bs.Pairwise (· < ·)
 | [],_=>List.Pairwise.nil
 | [b],_=>by simp
 | b::b2::bs,h=>by
  have h:br (Nat.ble (Nat.succ b) b2) (VQ (b2::bs)) false=true:=h
  cases h1:Nat.ble (Nat.succ b) b2 with
  | false=>rw [h1] at h; cases h
  | true =>
   rw [h1,AD] at h
   have hp:=RU h
   have h1:b<b2:=Ao.1 h1
   refine List.pairwise_cons.2 ⟨fun z hz=>?_,hp⟩
   rcases List.mem_cons.1 hz with rfl | hz
   ·exact h1
   ·exact Nat.lt_trans h1 ((List.pairwise_cons.1 hp).1 z hz)
theorem TY {bs:List Nat} (h:VQ bs=true):bs.Nodup:=(RU h).imp fun h=>Nat.ne_of_lt h
def noK (o:Option K4) (κ:R):R:=@Option.rec K4 (fun _=>R) κ (Bb "") o
theorem TI {o:Option K4} {κ:R} {v:V} {h:Heap} {n:K4} (hx:noK o κ = .rv v h n):o=none∧κ = .rv v h n:=by
 cases o with
 | none=>exact ⟨rfl,hx⟩
 | some r=>cases hx
def Yc (hs:Heap) (n M:K4) (j:Nat) (ys:List V):R :=
 @List.rec V (fun _=>R) (.rv (.nil .sl) hs M) (fun _ _ _=>Bx n hs (some (.c (.l ys) false none)) fun hf=>.rv (.sl n 0 j j false 2) hf M) ys
def RK (gk g:Nat) (n:K4) (args:List V) (hs:Heap) (acc:List K4):R :=
 Da args fun x l=>Da l fun y l=>GM l (Lq x fun gk' ck=>br (Nat.beq gk' gk) (Da ck fun zk l=>GM l (Hy zk fun zb zo=>Lq y fun g' cc=>br (Nat.beq g' g) (Da cc fun cb l=>GM l (Hy cb fun cz co=>KY n acc (
  HH zb hs fun cs _ _=>Vd cs fun xz=>CL zo xz fun u=>D6 u (.fail "") fun pm=>KD pm hs fun es bs clk =>
  HH cz hs fun cs _ pv=>noK pv (Vd cs fun cx=>CL co cx fun u=>Hy u fun lp lo=>HH lp hs fun cs _ pv2=>noK pv2 (Vd cs fun lx=>CL lo lx fun u=>D6 u (.fail "") fun pm2=>br (K4.beq pm2 pm)
   (br (Ie zb n) (br (Ie pm n) (br (Ie cz n) (br (Ie lp n) (br (Hm clk bs) (br (Fe es bs) (br (VQ bs) (Va es fun j=>br (Nat.ble j 1000000) (OY es fun its=>OL its (Rq its fun ys=>FI ys (Ol ys fun zs =>
    Aj (Nat.add 3 (Nat.mul 4 j)) fun d=>Xu d n fun M=>Yc hs n M j zs))) (.fail "")) (.fail "")) (.fail "")) (.fail "")) (.fail "")) (.fail "")) (.fail "")) (.fail "")) (.fail "")))))) (.fail ""))) (.fail ""))
def S5 (gk g:Nat):Gr:=fun args h n=>Vt 400 (RK gk g n args) args h n
section
variable {P:Program} {ρ:Env} {B:Nat}
theorem Rx {x:V} {κ:Nat->List V->R} {v:V} {h:Heap} {n:K4} (hx:Lq x κ = .rv v h n):∃ f l,x = .fn f l∧κ f l = .rv v h n:=by
 obtain ⟨f,l,rfl,e⟩:=Ho (Bc hx)
 exact ⟨f,l,rfl,by rw [←e]; exact hx⟩
theorem NM {l:List V} {κ:V->List V->R} {v:V} {h:Heap} {n:K4} (hx:Da l κ = .rv v h n):∃ a l',l=a::l'∧κ a l' = .rv v h n:=by
 obtain ⟨a,l',rfl,e⟩:=Br (Bc hx)
 exact ⟨a,l',rfl,by rw [←e]; exact hx⟩
theorem QP {l:List V} {κ:R} {v:V} {h:Heap} {n:K4} (hx:GM l κ = .rv v h n):l=[]∧κ = .rv v h n:=by
 obtain ⟨rfl,e⟩:=Cj (Bc hx)
 exact ⟨rfl,by rw [←e]; exact hx⟩
theorem QM {cs:Cs} {κ:List V->R} {v:V} {h:Heap} {n:K4} (hx:Vd cs κ = .rv v h n):∃ xs,cs = .l xs∧κ xs = .rv v h n:=by
 obtain ⟨xs,rfl,e⟩:=GT (Bc hx)
 exact ⟨xs,rfl,by rw [←e]; exact hx⟩
theorem SD (hρ:Bp ρ) (hmix:P.follows .mixedOrders=true) {T:FC} (hT:GI P ρ B T) {f fA:FuncId} {kc ks:K3} {gk g:Nat} {its:List Nat} (hf:DP (B2 f) T=some (Rf kc ks)) (hc:DP kc T=some (Ws (B2 fA))) (hks:DP ks T=some (.prim (GD g))) (hA:DP (B2 fA) T=some (.ap fA its Qa))
  (hK:DP (B2 gk) T=some PZ) (hits:∀ κ,HY gk its κ=κ):EE P ρ B f (S5 gk g):=by
 intro args h n v h1 n1 hx φ w xs gm hr
 refine Rp (hr:=hx) gm ?_
 intro hs acc v1 hh1 m1 m sub hcan res hOld hm1 gs
 unfold RK at hcan
 obtain ⟨x,l,rfl,c1⟩:=NM hcan
 obtain ⟨y,l,rfl,c2⟩:=NM c1
 obtain ⟨rfl,c3⟩:=QP c2
 obtain ⟨gk',ck,rfl,c4⟩:=Rx c3
 obtain ⟨e1,c5⟩:=C3 c4
 obtain rfl:=Nat.eq_of_beq_eq_true e1
 obtain ⟨zk,l,rfl,c6⟩:=NM c5
 obtain ⟨rfl,c7⟩:=QP c6
 obtain ⟨zb,zo,rfl,c8⟩:=LH c7
 obtain ⟨g',cc,rfl,c9⟩:=Rx c8
 obtain ⟨e2,c10⟩:=C3 c9
 obtain rfl:=Nat.eq_of_beq_eq_true e2
 obtain ⟨cb,l,rfl,c11⟩:=NM c10
 obtain ⟨rfl,c12⟩:=QP c11
 obtain ⟨cz,co,rfl,c13⟩:=LH c12
 obtain ⟨hacc,q7⟩:=H7 (Bc c13)
 rw [q7] at c13
 clear q7
 obtain ⟨cs,s0,p0,hzb,c14⟩:=Ih c13
 obtain ⟨xz,rfl,c15⟩:=QM c14
 obtain ⟨u,hzo,c16⟩:=Hw c15
 obtain ⟨pm,rfl,c17⟩:=ID c16
 obtain ⟨es,bs,clk,hpm,c18⟩:=Qx c17
 obtain ⟨cs,s1,p1,hcz,c19⟩:=Ih c18
 obtain ⟨rfl,c20⟩:=TI c19
 obtain ⟨cx,rfl,c21⟩:=QM c20
 obtain ⟨u,hco,c22⟩:=Hw c21
 obtain ⟨lp,lo,rfl,c23⟩:=LH c22
 obtain ⟨cs,s2,p2,hlp,c24⟩:=Ih c23
 obtain ⟨rfl,c25⟩:=TI c24
 obtain ⟨lx,rfl,c26⟩:=QM c25
 obtain ⟨u,hlo,c27⟩:=Hw c26
 obtain ⟨pm2,rfl,c28⟩:=ID c27
 obtain ⟨e3,c29⟩:=C3 c28
 obtain rfl:=K4.beq_iff.1 e3
 obtain ⟨l1,c30⟩:=C3 c29
 obtain ⟨l2,c31⟩:=C3 c30
 obtain ⟨l3,c32⟩:=C3 c31
 obtain ⟨l4,c33⟩:=C3 c32
 obtain ⟨l5,c34⟩:=C3 c33
 obtain ⟨l6,c35⟩:=C3 c34
 obtain ⟨l7,c36⟩:=C3 c35
 rw [O5] at c36
 obtain ⟨l8,c37⟩:=C3 c36
 have l1:=Cq.1 l1
 have l2:=Cq.1 l2
 have l3:=Cq.1 l3
 have l4:=Cq.1 l4
 have l6:=Iu l6
 have l7:=TY l7
 have l8:=Ao.1 l8
 obtain ⟨its',hes,hB,q⟩:=Lp (Bc c37)
 rw [q] at c37
 clear q
 obtain ⟨hU,q⟩:=KU (Bc c37)
 rw [q] at c37
 clear q
 have hS:∀ e∈es,CT e:=by rw [hes]; exact QH hB
 have hit:its'=es.map (Ew es):=by rw [hes]; exact (VK hU).symm
 have hok:∀ x∈its',Po es x:=fun x hx=>⟨(hB x hx).1,(hB x hx).2.1,(hB x hx).2.2,by rw [hes]; exact JE hU hx⟩
 subst hit
 rw [Jk] at c37
 obtain ⟨hst,q⟩:=GG (Bc c37)
 rw [q,Hq,Ai] at c37
 clear q
 obtain ⟨M,hM,q⟩:=Ls (Bc c37)
 rw [q] at c37
 clear q
 have hM:M.toN=n.toN+(3+4*es.length):=hM
 have key:=Pz (mm:=95) hf hc hks hA hK hits hzb hzo hpm hcz hco hlp hlo l6 l7 l5 hS hok hst l1 l2 l3 l4 (M.toN_max) (by omega) l8
 refine (HF hρ hmix hT 100).1 f _ hs n _ (R.sat_mono ?_ key) φ w xs gs hr
 rintro r ⟨v',h',n',rfl,hold,hn',hres⟩
 rcases hres with ⟨h0,rfl⟩ | ⟨h0,q,rfl,hq,hqn⟩
 ·subst h0
  replace c37:R.rv (.nil .sl) hs M = .rv v1 hh1 m1:=c37
  cases c37
  exact ⟨.inl ⟨rfl,rfl⟩,fun p hp=>⟨(hold p (hacc p hp)).symm,hOld p hp⟩,by omega⟩
 ·have c37:R.rv (.sl n 0 es.length es.length false 2) (AJ n hs (some (.c (.l (C7 (CQ (es.map (Ew es))))) false none))) M = .rv v1 hh1 m1:=by
   rw [←c37]
   have hll:(CQ (es.map (Ew es))).length=es.length:=by rw [(Dc _).length_eq,List.length_map]
   generalize CQ (es.map (Ew es))=sl at hll ⊢
   cases sl with
   | nil=>exact absurd (List.eq_nil_of_length_eq_zero hll.symm) h0
   | cons s sl =>
    show _=Bx n hs (some (.c (.l (C7 (s::sl))) false none)) fun hf=>.rv (.sl n 0 es.length es.length false 2) hf M
    rw [Dt]
  cases c37
  have hno:EN n (.sl n 0 es.length es.length false 2)=false:=by
   show Ie n n=false
   cases hl:Ie n n with
   | false=>rfl
   | true=>have:=Cq.1 hl; omega
  rcases res with ⟨ho,_⟩ | ⟨_,p,p',off',len',cap',ex',esz',e1,e2,hp1,hp2,hcl,hob⟩
  ·rw [hno] at ho; cases ho
  ·cases e1
   refine ⟨.inr ⟨hno,n,q,0,_,_,false,2,rfl,rfl,Nat.le_refl _,hqn,by rw [Am,hq],hob⟩,fun p hp=>⟨?_,hOld p hp⟩,by omega⟩
   rw [Ah _ _ (ne_of_lt (hacc p hp)).symm]
   exact (hold p (hacc p hp)).symm
end
end Go.Ev
