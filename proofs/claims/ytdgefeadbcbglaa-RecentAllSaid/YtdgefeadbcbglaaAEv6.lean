/- AN EVALUATOR OF THE MODEL OF Go, PROVED SOUND, PART 6: what it says of a call holds in every world, on every tape. Conditions: none of its own; each theorem bears its premises. -/
import Derived.Test.YtdgefeadbcbglaaAEv5
import Derived.Deep.Slices
noncomputable section
set_option linter.unusedSimpArgs false
set_option linter.unusedVariables false
namespace Go.Ev
set_option linter.unusedVariables false
set_option maxRecDepth 100000
open Go.RowKit
def GR (g:Nat):Ma := fun args h n => EB args fun x l => D0 x (EB l fun y l => J3 l (.rv (.tup []) h n)) fun _ _ _ _ _ _ => Kv g args h n
def QH (P:Program) (f:FuncId):Prop := ∀ (p:Option Addr) (cap:Nat) (fv:Value) (w:World), Calls P f #[.slice p 0 cap, fv] w fun e w' => e = .returned (.tuple #[])∧w'=w
theorem OD {P:Program} {ρ:Env} {B:Nat} {f g:FuncId} {fn gn:Func} {ty kt et:TypeId} (hf:P.funcs[f]? = some fn) (hb:fn.body.isSome=true) (hn:(fn.name == "runtime.NumGoroutine")=false) (hS:OU P f) (hN:QH P f) (hgf:P.funcs[g]? = some gn) (hgb:gn.body.isSome=true) (hgn:(gn.name == "runtime.NumGoroutine")=false) (hC:Rq P g ty)
    (ht:P.underlying ty=some (.map kt et)) (hp:GT P kt=some (.ks [.i, .s])):Ko P ρ B f (GR g) := by
  intro args h n v h1 n1 hx φ w xs gm hr
  have hg:(GR g args h n).good := AU hx
  unfold GR at hx hg
  obtain ⟨x, l, rfl, q1⟩ := Bt hg
  rw [q1] at hx hg
  rcases C7 hg with ⟨rfl, q4⟩ | ⟨p, off, len, cap, ex, esz, rfl, q4⟩
  · rw [q4] at hx hg
    obtain ⟨y, l, rfl, q2⟩ := Bt hg
    rw [q2] at hx hg
    obtain ⟨rfl, q3⟩ := DF hg
    rw [q3] at hx
    cases hx
    obtain ⟨X, ys, hX, r0, hr⟩ := Ak.1 hr
    obtain ⟨Y, ys, rfl, r1, hr⟩ := Ak.1 hr
    obtain rfl := Ao.1 hr
    have e0 := Bs r0
    obtain rfl:xs = #[.slice none 0 0, Y] := by cases xs; simp at hX; simp [hX, e0, BB]
    obtain ⟨cd, hcd⟩ := Option.isSome_iff_exists.1 hb
    exact IA hf hcd hn ((hN none 0 Y w).mono fun e w' ⟨he, hw⟩ => ⟨_, he, φ, by subst hw; exact ⟨Fr.refl h φ n _, gm, Qd⟩⟩)
  · rw [q4] at hx
    exact VN hf hb hn hS hgf hgb hgn hC ht hp _ h n v h1 n1 hx φ w xs gm hr
section
variable {h:Heap} {n n' p:K4}
theorem PU {a b:V} {κ:KV} (hn:∀ k:K4->R, n.nx k=k n') (hp:A8 p h=some (.c (.l [a, b]) false none)) :
    Dk 2 24 (.nil .sl) (.sl p 0 1 1 true 2) h n κ=κ (.sl n 0 1 1 false 2) (Af n h (some (.c (.l [a, b]) false none))) n' := by
  show GW p h (fun cs _ _ => Ac (Nat.mul 1 2) fun m => AJ cs 0 m fun y => Bz 2 24 (.nil .sl) 1 y h n κ)=_
  rw [FR hp, Aa]
  show DR h n (.c (.l [a, b]) false none) (fun h' n' => κ (.sl n 0 1 1 false 2) h' n')=_
  rw [FP hn]
theorem Ry {q:K4} {xs:List V} {k:Nat} {prev:Option K4} {a b:V} {κ:KV} (hn:∀ k:K4->R, n.nx k=k n') (hp:A8 p h=some (.c (.l [a, b]) false none)) (hq:A8 q h=some (.c (.l xs) false prev)) (hx:xs.length=2*k) (hl:k≤1000000000) :
    Dk 2 24 (.sl q 0 k k false 2) (.sl p 0 1 1 true 2) h n κ =
      κ (.sl n 0 (k+1) (k+1) false 2) (Af n (Af q (BS prev h) (some (.c (.l xs) true none))) (some (.c (.l (xs++[a, b])) false (some q)))) n' := by
  show GW p h (fun cs _ _ => Ac (Nat.mul 1 2) fun m => AJ cs 0 m fun y => Bz 2 24 (.sl q 0 k k false 2) 1 y h n κ)=_
  rw [FR hp, Aa]
  show Ac (Nat.add k 1) (fun need => br (Nat.ble need k) _ _)=_
  rw [Aa]
  have h1:Nat.ble (Nat.add k 1) k=false := Au (by show k<k+1; omega)
  have h2:Nat.ble (Nat.mul (Nat.add (Nat.mul 4 (Nat.add k 1)) 4096) 24) 281474976710656=true := A9.2 (by show (4*(k+1)+4096)*24≤281474976710656; omega)
  rw [h1, h2]
  show GD q h _=_
  rw [Ew hq, Aa, show Nat.mul k 2=xs.length by show k*2=_; omega, Fe]
  show DS xs [a, b] (fun zs => _)=_
  rw [Cp]
  show Ac (Nat.add 0 xs.length) (fun j => AJ (.l xs) 0 j _)=_
  rw [Aa, show Nat.add 0 xs.length=xs.length by show 0+xs.length=_; omega, Fe, CW]
  show DQ q (BS prev h) (some (.c (.l xs) true none)) _=_
  rw [AA, FP hn]
theorem Xt {x:V} {q:K4} {a b c:Nat} {ex:Bool} {esz:Nat} {κ:Heap->R} (hp:A8 p h=some (.c (.l [x]) false none)):Dj (.ptr p 0) (.sl q a b c ex esz) h κ=κ (Af p h (some (.c (.l [.sl q a b c ex esz]) false none))) := by
  show Jr h p 0 (.sl q a b c ex esz) κ=_
  rw [RW, D1]
  unfold CZ
  rw [FR hp, Ag, Lr (xs := [x]) (ys := [.sl q a b c ex esz]) rfl, CW, AA]; rfl
theorem Xj {a b x y:V} {κ:List V->R}:Gg 0 2 (.agg [a, b]) [x, y] κ=κ [a, b] := rfl
theorem Gj {κ:KV} {Φ:R->Prop}:∀ {r:R}, r.sat (fun x => ∃ v h n, x = .rv v h n∧(κ v h n).sat Φ)->(BY r κ).sat Φ
  | .fail _, h => h.elim
  | .both a b, h => ⟨Gj h.1, Gj h.2⟩
  | .ok _ _ _ _, h => by obtain ⟨v, h, n, e, _⟩ := h; cases e
  | .rv _ _ _, h => by obtain ⟨v, h, n, e, hs⟩ := h; cases e; exact hs
end
def uOf (es:List (V×V)) (t m c:Nat):Nat := match Em t m c es with
  | some (.int _ u) => u
  | _ => 0
def Ep (es:List (V×V)) (e:V×V):Itm := match e.1 with
  | .agg [.int _ t, .str m c] => ⟨uOf es t m c, t, m, c⟩
  | _ => ⟨0, 0, 0, 0⟩
theorem XP {es:List (V×V)} {k:IntKind} {t m c:Nat} {x:V}:Ep es (.agg [.int k t, .str m c], x)=⟨uOf es t m c, t, m, c⟩ := rfl
theorem Qw {es:List (V×V)} (hS:∀ e∈es, Cn e):∀ {ks:List Itm} {κ:List Itm->R}, (∀ x∈ks, PC es x)->Hp es ks.length (AE ks) κ=κ ks
  | [], κ, _ => rfl
  | ⟨u, t, m, c⟩::ks, κ, h => by
    obtain ⟨h1, h2, h3, h4⟩ := h _ (List.mem_cons_self ..)
    show br (AQ .u32 .u32) (br (Nat.ble (Nat.succ t) 4294967296) (br (Nat.ble (Nat.succ c) (Nat.pow 256 m))
      (BR (.ks [.i, .s]) (.agg [.int .u32 t, .str m c]) es (fun r => Ey r fun k u => br (AQ k .i64) (br (Nat.ble (Nat.succ u) 4611686018427387904) (Hp es ks.length (AE ks) fun zs => κ (⟨u, t, m, c⟩::zs)) (.fail "")) (.fail "")) (.fail "")) (.fail "")) (.fail "")) (.fail "")=_
    rw [Am.2 rfl, Ab, A9.2 h1, Ab, A9.2 (show Nat.succ c≤Nat.pow 256 m from h2), Ab, Gk hS, h4]
    show br (AQ .i64 .i64) (br (Nat.ble (Nat.succ u) 4611686018427387904) (Hp es ks.length (AE ks) fun zs => κ (⟨u, t, m, c⟩::zs)) (.fail "")) (.fail "")=_
    rw [Am.2 rfl, Ab, A9.2 h3, Ab, Qw hS fun x hx => h x (List.mem_cons_of_mem _ hx)]
theorem NO:∀ {es:List (V×V)} {κ:R}, (∀ e∈es, Cn e)->GQ es κ=κ
  | [], κ, _ => rfl
  | (k, x)::es, κ, h => by
    obtain ⟨t, m, c, hc, hk⟩ := h (k, x) (List.mem_cons_self ..)
    have hk:k = .agg [.int .u32 t, .str m c] := hk
    subst hk
    show br (AQ .u32 .u32) (br (Nat.ble (Nat.succ c) (Nat.pow 256 m)) (GQ es κ) (.fail "")) (.fail "")=_
    rw [Am.2 rfl, Ab, A9.2 (show Nat.succ c≤Nat.pow 256 m from hc), Ab, NO fun e he => h e (List.mem_cons_of_mem _ he)]
theorem Yd {p:K4} {off len cap esz:Nat} {ex:Bool} {κ0:R} {κ:K4->Nat->Nat->Nat->Bool->Nat->R}:D0 (.sl p off len cap ex esz) κ0 κ=κ p off len cap ex esz := rfl
/-- The sort where what it asks is DI. -/
theorem Ux {g:Nat} {h:Heap} {n q cz lp pm:K4} {co lo clk:Nat} {cx lx:List V} {s1 s2:Bool} {es:List (V×V)} {bs:List Nat} {ks:List Itm} {prev:Option K4}
    (hcz:A8 cz h=some (.c (.l cx) s1 none)) (hco:cx[co]? = some (.ptr lp lo)) (hlp:A8 lp h=some (.c (.l lx) s2 none)) (hlo:lx[lo]? = some (.map pm)) (hpm:A8 pm h=some (.m es bs clk)) (hq:A8 q h=some (.c (.l (AE ks)) false prev))
    (hk0:ks≠[]) (hbig:ks.length≤1000000) (hp1:P1 prev cz=true) (hp2:P1 prev lp=true) (hq1:q≠cz) (hq2:q≠lp) (hS:∀ e∈es, Cn e) (hok:∀ x∈ks, PC es x) (hst:(Cd ks).Pairwise fun a b => a.u<b.u) :
    Kv g [.sl q 0 ks.length ks.length false 2, .fn g [.ptr cz co]] h n = .rv (.tup []) (Af q (BS prev h) (some (.c (.l (AE (Cd ks))) false none))) n := by
  have hl1:1≤ks.length := by
    cases ks with
    | nil => exact absurd rfl hk0
    | cons => simp
  have hbq:∀ {p r:K4}, p≠r->K4.beq p r=false := fun {p r} hne => by
    cases hb:K4.beq p r with
    | false => rfl
    | true => exact absurd (K4.beq_iff.1 hb) hne
  show br (Nat.beq g g) (GD cz h _) (.fail "")=_
  rw [Nat.beq_refl, Ab, Ew hcz]
  show BK co cx _=_
  rw [Fh hco]
  show GD lp h _=_
  rw [Ew hlp]
  show BK lo lx _=_
  rw [Fh hlo]
  show J5 pm h _=_
  rw [Fw hpm]
  rw [Yd, Nat.beq_refl, Ab, A9.2 hl1, Ab, A9.2 hbig, Ab, Ew hq]
  rw [show P1 none q=true from rfl, Ab, Ab, hp1, Ab, hp2, Ab, hbq hq1, Ag, hbq hq2, Ag, NO hS, Aa]
  have hfl:Nat.mul ks.length 2=(AE ks).length := by rw [D9]; show ks.length*2=_; omega
  rw [hfl, Fe]
  show Hp es ks.length (AE ks) _=_
  rw [Qw hS hok, HE, IX hst, Gr, D1]
  unfold CZ
  rw [FR hq, Ag, Lr (xs := AE ks) (ys := AE (Cd ks)) (by rw [D9, D9, (Cj ks).length_eq]), CW, AA]
def R7:Rd := fun c q x h n => FW (.l [(.int .u32 0), (.str 0 0)]) h n fun z1 h n => Gh 2 z1 x h fun h => AP q h fun z2 => BA 2 z1 h fun z3 => Gg 0 2 z3 [(.int .u32 0), (.str 0 0)] fun z4 => EE false 1 2 z4 h n fun z5 h n => Dk 2 24 z2 z5 h n fun z6 h n => Dj q z6 h fun h => .rv (.bool true) h n
def mkR (c:FL) (z4:V) (t:S) (h:Heap) (n:K4):R :=
  JP z4 h n fun z7 h n => Do 0 z7 fun z8 => FW (.l [(iW 0), (.str 0 0)]) h n fun z9 h n => Gh 2 z9 z8 h fun h => g0 t fun za => BA 2 z9 h fun zb => Uw c za [zb] h n fun zc h n => Hy zc fun zd => Ed zd (rT t h n) <| nR t h n
def YK (c:FL):S->Heap->K4->R := fun t h n => g2 t fun z4 => IF z4 h n fun z5 h n => Do 0 z5 fun z6 => Ed z6 (AO 1 (mkR c z4 t h n) fun t h n => nR t h n) <| .ok (.exit 0) t h n
def Rw:Ent := .code (fun l k => EB l fun a0 l => EB l fun a1 l => J3 l <| k (.mk (.mk a0 a1 U U) Q0 Q0 Q0 Q0 Q0 Q0 Q0))
  (fun c t h n => g1 t fun z1 => AP z1 h fun z2 => Rj z2 h n fun z3 h n => AO 0 (w2 t z3 fun t => Fp (YK c) t h n) fun t h n => nR t h n) (fun t h n => .rv (.tup []) h n)
def ZI (ka:K3):Ent := .code (fun l k => EB l fun a0 l => J3 l <| k (.mk (.mk a0 U U U) Q0 Q0 Q0 Q0 Q0 Q0 Q0))
  (fun c t h n => g0 t fun z1 => BY (c ka [(.nil .sl), z1] h n) fun z2 h n => w1 t z2 fun t => rT t h n) (fun t h n => g1 t fun a0 => .rv a0 h n)
def Th (kc ks:K3):Ent := .code (fun l k => EB l fun a0 l => EB l fun a1 l => J3 l <| k (.mk (.mk a0 a1 U U) Q0 Q0 Q0 Q0 Q0 Q0 Q0))
  (fun c t h n => g0 t fun z1 => BY (c kc [z1] h n) fun z2 h n => g1 t fun z3 => AG (c ks [z2, z3] h n) fun z4 h n => w2 t z2 fun t => rT t h n) (fun t h n => g2 t fun a0 => .rv a0 h n)
/-- The registers of the range. -/
def aT (y zb:K4) (zo:Nat) (it:K4):S := .mk (.mk (.oth (.yl y)) (.ptr zb zo) (.ptr it 0) U) Q0 Q0 Q0 Q0 Q0 Q0 Q0
/-- What has been gathered. -/
def UT (it:K4) (h:Heap) (n:K4) (ss:List Itm) (L:V):Prop :=
  (ss=[]∧L = .nil .sl)∨(ss≠[] ∧ ∃ q prev, L = .sl q 0 ss.length ss.length false 2∧A8 q h=some (.c (.l (AE ss)) false prev)∧it.toN<q.toN∧q.toN<n.toN ∧ ∀ r, prev=some r->it.toN<r.toN∧r≠q)
theorem UT.mono {it n n':K4} {h h':Heap} {ss:List Itm} {L:V} (l:UT it h n ss L) (hn:n.toN≤n'.toN) (hh:∀ p, it.toN<p.toN->p.toN<n.toN->A8 p h'=A8 p h):UT it h' n' ss L := by
  rcases l with l | ⟨h0, q, prev, h1, h2, h3, h4, h5⟩
  · exact .inl l
  · exact .inr ⟨h0, q, prev, h1, by rw [hh q h3 h4]; exact h2, h3, by omega, h5⟩
theorem Ub (A C:List Itm):AE (A++C)=AE A++AE C := by simp [AE]
theorem U8 {it n n' p:K4} {h:Heap} {ss:List Itm} {i:Itm} {L:V} (hn:∀ k:K4->R, n.nx k=k n') (hn':n'.toN=n.toN+1) (hit:it.toN<n.toN) (hp:A8 p h=some (.c (.l [.int .u32 i.t, .str i.m i.c]) false none)) (hl:UT it h n ss L) (hss:ss.length≤1000000000) :
    ∃ q k h', (∀ κ, Dk 2 24 L (.sl p 0 1 1 true 2) h n κ=κ (.sl q 0 k k false 2) h' n')∧(∀ r, r.toN≤it.toN->A8 r h'=A8 r h)∧UT it h' n' (ss++[i]) (.sl q 0 k k false 2) := by
  rcases hl with ⟨h0, hL⟩ | ⟨h0, q, prev, hL, hq', hq0, hqn, hpr⟩
  · subst h0 hL
    refine ⟨n, 1, _, fun κ => PU hn hp, fun r hr => ?_, .inr ⟨by simp, n, none, rfl, ?_, hit, by omega, fun r hr => by cases hr⟩⟩
    · rw [A6 _ _ (ne_of_lt (by omega:r.toN<n.toN)).symm]
    · rw [A7]; rfl
  · subst hL
    refine ⟨n, ss.length+1, _, fun κ => Ry hn hp hq' (D9 ss) hss, fun r hr => ?_, .inr ⟨by simp, n, some q, by simp, ?_, hit, by omega, fun r hr => ?_⟩⟩
    · rw [A6 _ _ (ne_of_lt (by omega:r.toN<n.toN)).symm, A6 _ _ (ne_of_lt (by omega:r.toN<q.toN)).symm]
      cases hprev:prev with
      | none => rfl
      | some r' => exact A6 _ _ (ne_of_lt (by have := (hpr r' hprev).1; omega:r.toN<r'.toN)).symm
    · rw [A7, Ub]; rfl
    · cases hr
      exact ⟨hq0, ne_of_lt hqn⟩
theorem Qx {p:K4} {h:Heap} {κ:BX->R}:AT p h κ=κ (A8 p h) := AB _ _ _
section
variable {hb h:Heap} {n pm y bx it zb:K4} {zo clk:Nat} {es:List (V×V)} {bs:List Nat} {T:FC} {fA:FuncId} {its:List Nat} {mm:Nat}
theorem UZ {L:V} {ss:List Itm} {seen:List Nat} {e:V×V} {b i:Nat} (hA:BD (AI fA) T=some (.ap fA its R7)) (hit:A8 it h=some (.it pm clk (b::seen) clk)) (hm:A8 pm h=some (.m es bs clk)) (hy:A8 y h=some (.lp fA bx)) (hbx:A8 bx h=some (.c (.l [L]) false none))
    (he:es[i]? = some e) (hb:bs[i]? = some b) (hnd:bs.Nodup) (hS:Cn e) (hpb:pm.toN<bx.toN) (hby:bx.toN<y.toN) (hyi:y.toN<it.toN) (hin:it.toN<n.toN) (hl:UT it h n ss L) (hss:ss.length≤1000000000) (hN:n.toN+4≤65535) :
    ∃ h' L' n', mkR (Az T (mm+1)) (.ptr it 0) (aT y zb zo it) h n=nR (aT y zb zo it) h' n'∧n'.toN=n.toN+4∧(∀ p, p.toN≤it.toN->p≠bx->A8 p h'=A8 p h)∧A8 bx h'=some (.c (.l [L']) false none)∧UT it h' n' (ss++[Ep es e]) L' := by
  obtain ⟨n1, hn1, hx1⟩ := K4.nx_u n (by omega)
  obtain ⟨n2, hn2, hx2⟩ := K4.nx_u n1 (by omega)
  obtain ⟨n3, hn3, hx3⟩ := K4.nx_u n2 (by omega)
  obtain ⟨n4, hn4, hx4⟩ := K4.nx_u n3 (by omega)
  obtain ⟨t, m, c, hc, hk⟩ := hS
  obtain ⟨k, x⟩ := e
  have hk:k = .agg [.int .u32 t, .str m c] := hk
  subst hk
  have hfirst:∀ j, j<i->bs[j]? ≠ some b := fun j hj e => by
    obtain ⟨l1, e1⟩ := List.getElem?_eq_some_iff.1 e
    obtain ⟨l2, e2⟩ := List.getElem?_eq_some_iff.1 hb
    exact List.pairwise_iff_getElem.1 hnd j i l1 l2 hj (e1.trans e2.symm)
  have ent:∀ κ:KV, JP (.ptr it 0) h n κ=κ (.tup [.agg [.int .u32 t, .str m c], x]) h n := fun κ => by
    show QK it h (.fail "") _=_
    rw [Ks hit]
    show J5 pm h _=_
    rw [Fw hm]
    show br (Nat.beq clk clk) (DX b es bs fun k x => κ (.tup [k, x]) h n) (.fail "")=_
    rw [Nat.beq_refl, Ab, LC he hb hfirst]
  -- the key in a box
  obtain ⟨h1, eh1⟩:∃ h1, h1=Af n (Af n h (some (.c (.l [iW 0, .str 0 0]) false none))) (some (.c (.l [.int .u32 t, .str m c]) false none)) := ⟨_, rfl⟩
  have g1:A8 n h1=some (.c (.l [.int .u32 t, .str m c]) false none) := by rw [eh1, A7]
  have g1':∀ p, p≠n->A8 p h1=A8 p h := fun p hp => by rw [eh1, A6 _ _ hp.symm, A6 _ _ hp.symm]
  -- the record is taken
  obtain ⟨h2, eh2⟩:∃ h2, h2=Af y h1 none := ⟨_, rfl⟩
  have g2':∀ p, p≠y->A8 p h2=A8 p h1 := fun p hp => by rw [eh2, A6 _ _ hp.symm]
  -- the key in a box of the round's own
  obtain ⟨h3, eh3⟩:∃ h3, h3=Af n1 (Af n1 h2 (some (.c (.l [.int .u32 0, .str 0 0]) false none))) (some (.c (.l [.int .u32 t, .str m c]) false none)) := ⟨_, rfl⟩
  have g3:A8 n1 h3=some (.c (.l [.int .u32 t, .str m c]) false none) := by rw [eh3, A7]
  have g3':∀ p, p≠n1->A8 p h3=A8 p h2 := fun p hp => by rw [eh3, A6 _ _ hp.symm, A6 _ _ hp.symm]
  obtain ⟨h4, eh4⟩:∃ h4, h4=Af n2 h3 (some (.c (.l [.int .u32 t, .str m c]) false none)) := ⟨_, rfl⟩
  have g4:A8 n2 h4=some (.c (.l [.int .u32 t, .str m c]) false none) := by rw [eh4, A7]
  have g4':∀ p, p≠n2->A8 p h4=A8 p h3 := fun p hp => by rw [eh4, A6 _ _ hp.symm]
  have old:∀ p, p.toN<n.toN->p≠y->A8 p h4=A8 p h := fun p hp hpy => by
    rw [g4' p (ne_of_lt (by omega)), g3' p (ne_of_lt (by omega)), g2' p hpy, g1' p (ne_of_lt hp)]
  have hbx4:A8 bx h4=some (.c (.l [L]) false none) := by rw [old bx (by omega) (ne_of_lt hby)]; exact hbx
  have hl4:UT it h4 n3 ss L := hl.mono (by omega) fun p hp1 hp2 => old p hp2 (ne_of_lt (by omega:y.toN<p.toN)).symm
  obtain ⟨q, k, h5, happ, hfr, hl5⟩ := U8 (i := ⟨uOf es t m c, t, m, c⟩) hx4 hn4 (by omega) g4 hl4 hss
  obtain ⟨h6, eh6⟩:∃ h6, h6=Af bx h5 (some (.c (.l [.sl q 0 k k false 2]) false none)) := ⟨_, rfl⟩
  obtain ⟨h7, eh7⟩:∃ h7, h7=Af y h6 (some (.lp fA bx)) := ⟨_, rfl⟩
  have hbx5:A8 bx h5=some (.c (.l [L]) false none) := by rw [hfr bx (by omega)]; exact hbx4
  have round:Az T (mm+1) (AI fA) [.oth .no, .ptr bx 0, .agg [.int .u32 t, .str m c]] h2 n1 = .rv (.bool true) h6 n4 := by
    rw [B0, hA]
    show R7 (Az T mm) (.ptr bx 0) (.agg [.int .u32 t, .str m c]) h2 n1=_
    unfold R7
    rw [M7 hx2]
    show Gh 2 (.ptr n1 0) (.agg [.int .u32 t, .str m c]) _ _=_
    rw [LG (x := .int .u32 0) (y := .str 0 0) (A7 _ _ _), ←eh3]
    show AP (.ptr bx 0) h3 _=_
    rw [MZ (v := L) (by rw [←g4' bx (ne_of_lt (by omega))]; exact hbx4) rfl, Kn g3, Xj, Pw hx3, ←eh4, happ, Xt hbx5, ←eh6]
  refine ⟨h7, .sl q 0 k k false 2, n4, ?_, by omega, fun p hp hpb' => ?_, ?_, ?_⟩
  · unfold mkR
    rw [ent, X3, M7 hx1]
    show Gh 2 (.ptr n 0) (.agg [.int .u32 t, .str m c]) _ _=_
    rw [LG (x := iW 0) (y := .str 0 0) (A7 _ _ _), ←eh1]
    show BA 2 (.ptr n 0) h1 _=_
    rw [Kn g1]
    show AT y h1 _=_
    rw [Qx, g1' y (ne_of_lt (by omega)), hy]
    show AV y h1 none _=_
    rw [Cx, ←eh2]
    show BY (Az T (mm+1) (AI fA) [.oth .no, .ptr bx 0, .agg [.int .u32 t, .str m c]] h2 n1) _=_
    rw [round]
    show AV y h6 (some (.lp fA bx)) _=_
    rw [Cx, ←eh7]
    rfl
  · by_cases hpy:p=y
    · subst hpy; rw [eh7, A7, hy]
    · rw [eh7, A6 _ _ (Ne.symm hpy), eh6, A6 _ _ (Ne.symm hpb'), hfr p hp, old p (by omega) hpy]
  · rw [eh7, A6 _ _ (ne_of_lt hby).symm, eh6, A7]
  · rw [XP]
    refine hl5.mono (Nat.le_refl _) fun p hp1 hp2 => ?_
    rw [eh7, A6 _ _ (ne_of_lt (by omega:y.toN<p.toN)), eh6, A6 _ _ (ne_of_lt (by omega:bx.toN<p.toN))]
end
section
variable {hs0:Heap} {pm y bx it zb:K4} {zo clk:Nat} {es:List (V×V)} {bs:List Nat} {T:FC} {fA:FuncId} {its:List Nat} {mm:Nat}
/-- THE RANGE. -/
theorem Y6 (hA:BD (AI fA) T=some (.ap fA its R7)) (hm:A8 pm hs0=some (.m es bs clk)) (hy:A8 y hs0=some (.lp fA bx)) (hlen:es.length=bs.length) (hnd:bs.Nodup) (hlt:DH clk bs=true) (hS:∀ e∈es, Cn e)
    (hpb:pm.toN<bx.toN) (hby:bx.toN<y.toN) (hyi:y.toN<it.toN) {N:Nat} (hN:N≤65535) {all:List Itm} (hbig:es.length≤1000000) :
    ∀ (j k:Nat) (left:List ((V×V)×Nat)) (L:V) (h:Heap) (n:K4) (seen:List Nat) (ss:List Itm), left.length=j->j<k->(∀ p, p.toN<it.toN->p≠bx->A8 p h=A8 p hs0)->A8 bx h=some (.c (.l [L]) false none)->A8 it h=some (.it pm clk seen clk)->it.toN<n.toN->UT it h n ss L →
      n.toN+4*j≤N->ss.length+j≤es.length->(left.map (·.2)).Nodup->(∀ y∈left, Ch y.2 seen=false∧y.2∈bs)->(∀ (i:Nat) e b, es[i]? = some e->bs[i]? = some b->Ch b seen=false->(e, b)∈left)->(ss++left.map fun y => Ep es y.1).Perm all →
      (J6 (YK (Az T (mm+1))) k (aT y zb zo it) h n).sat fun r => ∃ L' h' n' ss', r = .ok (.exit 0) (aT y zb zo it) h' n'∧(∀ p, p.toN<it.toN->p≠bx->A8 p h'=A8 p hs0)∧A8 bx h'=some (.c (.l [L']) false none)∧UT it h' n' ss' L'∧it.toN<n'.toN∧n'.toN≤N∧ss'.Perm all := by
  intro j
  induction j with
  | zero =>
    intro k left L h n seen ss hlj hk hold hbx hit hin hl hnN hsl hI1 hI2 hI3 hI5
    obtain ⟨k, rfl⟩:∃ k', k=k'+1 := ⟨k - 1, by omega⟩
    obtain rfl := List.eq_nil_of_length_eq_zero hlj
    rw [I9]
    show R.sat _ (Rx (YK (Az T (mm+1)) (aT y zb zo it) h n) (J6 (YK (Az T (mm+1))) k))
    apply Kl
    show R.sat _ (IF (.ptr it 0) h n fun z5 h n => Do 0 z5 fun z6 => Ed z6 (AO 1 (mkR (Az T (mm+1)) (.ptr it 0) (aT y zb zo it) h n) fun t h n => nR t h n) <| .ok (.exit 0) (aT y zb zo it) h n)
    unfold IF
    show R.sat _ (QK it h _ _)
    rw [Ks hit]
    show R.sat _ (J5 pm h _)
    rw [Fw (by rw [hold pm (by omega) (ne_of_lt hpb)]; exact hm), hlt, Ab, show Nat.ble clk clk=true from A9.2 (Nat.le_refl _), Ab]
    refine Gq hlen (fun _ => ?_) fun i e b he hb hn => by have := hI3 i e b he hb hn; simp at this
    refine ⟨L, h, n, ss, rfl, hold, hbx, hl, hin, by omega, ?_⟩
    simpa using hI5
  | succ j ih =>
    intro k left L h n seen ss hlj hk hold hbx hit hin hl hnN hsl hI1 hI2 hI3 hI5
    obtain ⟨k, rfl⟩:∃ k', k=k'+1 := ⟨k - 1, by omega⟩
    rw [I9]
    show R.sat _ (Rx (YK (Az T (mm+1)) (aT y zb zo it) h n) (J6 (YK (Az T (mm+1))) k))
    apply Kl
    show R.sat _ (IF (.ptr it 0) h n fun z5 h n => Do 0 z5 fun z6 => Ed z6 (AO 1 (mkR (Az T (mm+1)) (.ptr it 0) (aT y zb zo it) h n) fun t h n => nR t h n) <| .ok (.exit 0) (aT y zb zo it) h n)
    unfold IF
    show R.sat _ (QK it h _ _)
    rw [Ks hit]
    show R.sat _ (J5 pm h _)
    rw [Fw (by rw [hold pm (by omega) (ne_of_lt hpb)]; exact hm), hlt, Ab, show Nat.ble clk clk=true from A9.2 (Nat.le_refl _), Ab]
    refine Gq hlen (fun hall => ?_) fun i e b he hb hn => ?_
    · exfalso
      cases left with
      | nil => simp at hlj
      | cons z left =>
        obtain ⟨h1, h2⟩ := hI2 z (List.mem_cons_self ..)
        rw [hall _ h2] at h1; cases h1
    · have hmem := hI3 i e b he hb hn
      obtain ⟨l1, l2, rfl⟩ := List.append_of_mem hmem
      have hee:e∈es := List.mem_of_getElem? he
      unfold LY
      rw [Cx]
      obtain ⟨h1, eh1⟩:∃ h1, h1=Af it h (some (.it pm clk (b::seen) clk)) := ⟨_, rfl⟩
      rw [←eh1]
      have g1:A8 it h1=some (.it pm clk (b::seen) clk) := by rw [eh1, A7]
      have g1':∀ p, p≠it->A8 p h1=A8 p h := fun p hp => by rw [eh1, A6 _ _ hp.symm]
      have hold1:∀ p, p.toN<it.toN->p≠bx->A8 p h1=A8 p hs0 := fun p hp hpb' => by rw [g1' p (ne_of_lt hp), hold p hp hpb']
      have hbx1:A8 bx h1=some (.c (.l [L]) false none) := by rw [g1' bx (ne_of_lt (by omega))]; exact hbx
      have hl1:UT it h1 n ss L := hl.mono (Nat.le_refl _) fun p hp1 hp2 => g1' p (ne_of_lt hp1).symm
      obtain ⟨h', L', n', hR, hn1, hfr, hbx', hl'⟩ := UZ (zb := zb) (zo := zo) (mm := mm) (n := n) (L := L) (ss := ss) (e := e) hA g1 (by rw [hold1 pm (by omega) (ne_of_lt hpb)]; exact hm) (by rw [hold1 y hyi (ne_of_lt hby).symm]; exact hy) hbx1 he hb hnd (hS e hee) hpb hby hyi hin hl1 (by omega) (by omega)
      obtain ⟨ek, ex⟩ := e
      show R.sat _ (AO 1 (mkR (Az T (mm+1)) (.ptr it 0) (aT y zb zo it) h1 n) fun t h n => nR t h n)
      rw [hR]
      show R.sat _ (J6 (YK (Az T (mm+1))) k (aT y zb zo it) h' n')
      have hI1':(l1.map (·.2)++b::l2.map (·.2)).Nodup := by simpa using hI1
      have hI1'':b ∉ l1.map (·.2)∧b ∉ l2.map (·.2)∧(l1.map (·.2)++l2.map (·.2)).Nodup := by
        have hp:(b::(l1.map (·.2)++l2.map (·.2))).Nodup := (List.perm_middle.nodup_iff).1 hI1'
        obtain ⟨q1, q2⟩ := List.nodup_cons.1 hp
        exact ⟨fun h => q1 (List.mem_append_left _ h), fun h => q1 (List.mem_append_right _ h), q2⟩
      refine ih k (l1++l2) L' h' n' (b::seen) (ss++[Ep es (ek, ex)]) (by simp at hlj ⊢; omega) (by omega) (fun p hp hpb' => by rw [hfr p (by omega) hpb', hold1 p hp hpb']) hbx' (by rw [hfr it (Nat.le_refl _) (ne_of_lt (by omega)).symm]; exact g1) (by omega) hl' (by omega) (by rw [List.length_append]; simp; omega) (by simpa using hI1''.2.2)
        (fun z hz => ?_) (fun i' e' b' he' hb' hn' => ?_) ?_
      · have hz':z∈l1++((ek, ex), b)::l2 := by
          rcases List.mem_append.1 hz with h | h
          · exact List.mem_append_left _ h
          · exact List.mem_append_right _ (List.mem_cons_of_mem _ h)
        obtain ⟨y1, y2⟩ := hI2 z hz'
        refine ⟨?_, y2⟩
        show br (Nat.beq b z.2) true (Ch z.2 seen)=false
        have hne:b≠z.2 := fun e => by
          rcases List.mem_append.1 hz with h | h
          · exact hI1''.1 (List.mem_map.2 ⟨z, h, e.symm⟩)
          · exact hI1''.2.1 (List.mem_map.2 ⟨z, h, e.symm⟩)
        have:Nat.beq b z.2=false := by
          cases hx:Nat.beq b z.2 with
          | false => rfl
          | true => exact absurd (Nat.eq_of_beq_eq_true hx) hne
        rw [this]; exact y1
      · have hn':br (Nat.beq b b') true (Ch b' seen)=false := hn'
        cases hx:Nat.beq b b' with
        | true => rw [hx] at hn'; cases hn'
        | false =>
          rw [hx] at hn'
          have := hI3 i' e' b' he' hb' hn'
          rcases List.mem_append.1 this with h | h
          · exact List.mem_append_left _ h
          · rcases List.mem_cons.1 h with h | h
            · cases h; rw [Nat.beq_refl] at hx; cases hx
            · exact List.mem_append_right _ h
      · refine List.Perm.trans ?_ hI5
        rw [List.map_append, List.map_append, List.map_cons, List.append_assoc]
        refine List.Perm.append_left _ ?_
        show (Ep es (ek, ex)::(l1.map (fun y => Ep es y.1)++l2.map fun y => Ep es y.1)).Perm (l1.map (fun y => Ep es y.1)++Ep es (ek, ex)::l2.map fun y => Ep es y.1)
        exact List.perm_middle.symm
end
section
variable {hs:Heap} {n0 pm zb:K4} {zo clk:Nat} {es:List (V×V)} {bs:List Nat} {T:FC} {fA:FuncId} {its:List Nat} {mm gk:Nat} {xz:List V} {s0:Bool} {p0:Option K4}
/-- slices.AppendSeq of the keys. -/
theorem XB (hA:BD (AI fA) T=some (.ap fA its R7)) (hK:BD (AI gk) T=some Rw) (hits:∀ κ, Iv gk its κ=κ) (hzb:A8 zb hs=some (.c (.l xz) s0 p0)) (hzo:xz[zo]? = some (.map pm)) (hm:A8 pm hs=some (.m es bs clk)) (hlen:es.length=bs.length) (hnd:bs.Nodup) (hlt:DH clk bs=true) (hS:∀ e∈es, Cn e)
    (hzn:zb.toN<n0.toN) (hpn:pm.toN<n0.toN) {N:Nat} (hN:N≤65535) (hn:n0.toN+3+4*es.length≤N) (hbig:es.length≤1000000) :
    (Az T (mm+3) (AI fA) [.nil .sl, .fn gk [.ptr zb zo]] hs n0).sat fun r => ∃ L h' n' it ss, r = .rv L h' n'∧(∀ p, p.toN<n0.toN->A8 p h'=A8 p hs)∧n0.toN<it.toN∧it.toN<n'.toN∧UT it h' n' ss L∧n'.toN≤N∧ss.Perm (es.map (Ep es)) := by
  obtain ⟨n1, hn1, hx1⟩ := K4.nx_u n0 (by omega)
  obtain ⟨n2, hn2, hx2⟩ := K4.nx_u n1 (by omega)
  obtain ⟨n3, hn3, hx3⟩ := K4.nx_u n2 (by omega)
  rw [B0, hA]
  show R.sat _ (Iv gk its (AV n0 hs (some (.c (.l [.nil .sl]) false none)) fun h => n0.nx fun n1 => AV n1 h (some (.lp fA n0)) fun h => n1.nx fun n2 =>
      BY (Az T (mm+2) (AI gk) (.oth (.yl n1)::[.ptr zb zo]) h n2) fun _ h m =>
        AT n1 h fun o => Za o (GD n0 h fun cs _ _ => Gt cs 0 fun sv => AV n0 h none fun h => AV n1 h none fun h => .rv sv h m)))
  rw [hits, Cx, hx1, Cx, hx2]
  obtain ⟨h2, eh2⟩:∃ h2, h2=Af n1 (Af n0 hs (some (.c (.l [.nil .sl]) false none))) (some (.lp fA n0)) := ⟨_, rfl⟩
  rw [←eh2]
  have n01:n0≠n1 := ne_of_lt (by omega)
  have gy:A8 n1 h2=some (.lp fA n0) := by rw [eh2, A7]
  have gb:A8 n0 h2=some (.c (.l [.nil .sl]) false none) := by rw [eh2, A6 _ _ n01.symm, A7]
  have g2':∀ p, p.toN<n0.toN->A8 p h2=A8 p hs := fun p hp => by rw [eh2, A6 _ _ (ne_of_lt (by omega:p.toN<n1.toN)).symm, A6 _ _ (ne_of_lt hp).symm]
  apply Gj
  rw [B0, hK]
  apply I7
  show R.sat _ (AP (.ptr zb zo) h2 _)
  rw [MZ (by rw [g2' zb hzn]; exact hzb) (v := .map pm) hzo]
  show R.sat _ (J5 pm h2 _)
  rw [Fw (by rw [g2' pm hpn]; exact hm)]
  show R.sat _ (DR h2 n2 (.it pm clk [] clk) _)
  rw [FP hx3]
  obtain ⟨h3, eh3⟩:∃ h3, h3=Af n2 h2 (some (.it pm clk [] clk)) := ⟨_, rfl⟩
  rw [←eh3]
  have g3':∀ p, p.toN<n2.toN->A8 p h3=A8 p h2 := fun p hp => by rw [eh3, A6 _ _ (ne_of_lt hp).symm]
  show R.sat _ (AO 0 (J6 (YK (Az T (mm+1))) 1000000000 (aT n1 zb zo n2) h3 n3) _)
  apply Ic
  have key := Y6 (hs0 := h3) (zb := zb) (zo := zo) (mm := mm) (it := n2) (y := n1) (bx := n0) (N := N) (all := es.map (Ep es)) hA (by rw [g3' pm (by omega), g2' pm hpn]; exact hm) (by rw [g3' n1 (by omega)]; exact gy) hlen hnd hlt hS hpn (by omega) (by omega) hN hbig es.length 1000000000 (es.zip bs) (.nil .sl) h3 n3 [] [] (by rw [List.length_zip]; omega) (by omega) (fun p _ _ => rfl) (by rw [g3' n0 (by omega)]; exact gb) (by rw [eh3, A7]) (by omega) (.inl ⟨rfl, rfl⟩) (by omega) (by simp)
    (by rw [List.map_snd_zip (by omega)]; exact hnd) (fun y hy => ⟨rfl, (List.of_mem_zip hy).2⟩) (fun i e b he hb _ => List.mem_of_getElem? (List.getElem?_zip_eq_some.2 ⟨he, hb⟩)) (by
      have e1:(es.zip bs).map (fun y => Ep es y.1)=es.map (Ep es) := by
        rw [show (fun y:(V×V)×Nat => Ep es y.1)=Ep es ∘ Prod.fst from rfl, ←List.map_map, List.map_fst_zip (by omega)]
      rw [List.nil_append, e1])
  refine R.sat_mono ?_ key
  rintro r ⟨L', h', n', ss', rfl, hold, hbx, hl, hin, hn', hperm⟩
  refine ⟨.tup [], h', n', rfl, ?_⟩
  show R.sat _ (AT n1 h' _)
  rw [Qx, hold n1 (by omega) n01.symm, g3' n1 (by omega), gy]
  show R.sat _ (GD n0 h' _)
  rw [Ew hbx]
  show R.sat _ (AV n0 h' none _)
  rw [Cx]
  show R.sat _ (AV n1 _ none _)
  rw [Cx]
  refine ⟨L', _, n', n2, ss', rfl, fun p hp => ?_, by omega, hin, hl.mono (Nat.le_refl _) fun p hp1 hp2 => ?_, hn', hperm⟩
  · rw [A6 _ _ (ne_of_lt (by omega:p.toN<n1.toN)).symm, A6 _ _ (ne_of_lt hp).symm, hold p (by omega) (ne_of_lt hp), g3' p (by omega), g2' p hp]
  · rw [A6 _ _ (ne_of_lt (by omega:n1.toN<p.toN)), A6 _ _ (ne_of_lt (by omega:n0.toN<p.toN))]
end
section
variable {hs:Heap} {n0 pm zb cz lp:K4} {zo co lo clk:Nat} {es:List (V×V)} {bs:List Nat} {T:FC} {fA:FuncId} {its:List Nat} {mm gk g:Nat} {xz cx lx:List V} {s0 s1 s2:Bool} {p0:Option K4} {f:FuncId} {kc ks:K3}
/-- slices.SortedFunc of the keys. -/
theorem PO (hf:BD (AI f) T=some (Th kc ks)) (hc:BD kc T=some (ZI (AI fA))) (hks:BD ks T=some (.prim (GR g))) (hA:BD (AI fA) T=some (.ap fA its R7)) (hK:BD (AI gk) T=some Rw) (hits:∀ κ, Iv gk its κ=κ)
    (hzb:A8 zb hs=some (.c (.l xz) s0 p0)) (hzo:xz[zo]? = some (.map pm)) (hm:A8 pm hs=some (.m es bs clk)) (hcz:A8 cz hs=some (.c (.l cx) s1 none)) (hco:cx[co]? = some (.ptr lp lo)) (hlp:A8 lp hs=some (.c (.l lx) s2 none)) (hlo:lx[lo]? = some (.map pm))
    (hlen:es.length=bs.length) (hnd:bs.Nodup) (hlt:DH clk bs=true) (hS:∀ e∈es, Cn e) (hok:∀ x∈es.map (Ep es), PC es x) (hst:(Cd (es.map (Ep es))).Pairwise fun a b => a.u<b.u)
    (hzn:zb.toN<n0.toN) (hpn:pm.toN<n0.toN) (hcn:cz.toN<n0.toN) (hln:lp.toN<n0.toN) {N:Nat} (hN:N≤65535) (hn:n0.toN+3+4*es.length≤N) (hbig:es.length≤1000000) :
    (Az T (mm+5) (AI f) [.fn gk [.ptr zb zo], .fn g [.ptr cz co]] hs n0).sat fun r => ∃ v h' n', r = .rv v h' n'∧(∀ p, p.toN<n0.toN->A8 p h'=A8 p hs)∧n'.toN≤N ∧
      ((es=[]∧v = .nil .sl)∨(es≠[] ∧ ∃ q, v = .sl q 0 es.length es.length false 2∧A8 q h'=some (.c (.l (AE (Cd (es.map (Ep es))))) false none)∧n0.toN≤q.toN)) := by
  rw [B0, hf]
  apply I7
  show R.sat _ (BY (Az T (mm+4) kc [.fn gk [.ptr zb zo]] hs n0) _)
  apply Gj
  rw [B0, hc]
  apply I7
  show R.sat _ (BY (Az T (mm+3) (AI fA) [.nil .sl, .fn gk [.ptr zb zo]] hs n0) _)
  apply Gj
  refine R.sat_mono ?_ (XB (mm := mm) hA hK hits hzb hzo hm hlen hnd hlt hS hzn hpn hN hn hbig)
  rintro r ⟨L, h', n', it, ss, rfl, hold, hit, hin, hl, hn', hperm⟩
  refine ⟨L, h', n', rfl, L, h', n', rfl, ?_⟩
  show R.sat _ (AG (Az T (mm+4) ks [L, .fn g [.ptr cz co]] h' n') _)
  rw [B0, hks]
  have hlen':ss.length=es.length := by rw [hperm.length_eq, List.length_map]
  rcases hl with ⟨h0, hL⟩ | ⟨h0, q, prev, hL, hq, hq0, hqn, hpr⟩
  · subst h0 hL
    have he:es=[] := by
      cases es with
      | nil => rfl
      | cons => simp at hlen'
    exact ⟨.nil .sl, h', n', rfl, hold, hn', .inl ⟨he, rfl⟩⟩
  · subst hL
    have he:es≠[] := fun e => by
      subst e
      exact h0 (List.eq_nil_of_length_eq_zero hlen')
    have hone:Cd ss=Cd (es.map (Ep es)) := IV hst (Cj _) ((Cj ss).trans hperm) (Gf ss)
    have hnp:∀ p:K4, p.toN<n0.toN->P1 prev p=true := fun p hp => by
      cases hprev:prev with
      | none => rfl
      | some r =>
        have hb:K4.beq r p=false := by
          cases hb:K4.beq r p with
          | false => rfl
          | true => have := K4.beq_iff.1 hb; have := (hpr r hprev).1; subst r; omega
        show br (K4.beq r p) false true=true
        rw [hb]; rfl
    show R.sat _ (AG (KC (Kv g [.sl q 0 ss.length ss.length false 2, .fn g [.ptr cz co]] h' n')) _)
    rw [Ux (by rw [hold cz hcn]; exact hcz) hco (by rw [hold lp hln]; exact hlp) hlo (by rw [hold pm hpn]; exact hm) hq h0 (by omega) (hnp cz hcn) (hnp lp hln) (fun e => by subst e; omega) (fun e => by subst e; omega) hS (fun x hx => hok x (hperm.mem_iff.1 hx)) (by rw [hone]; exact hst)]
    refine ⟨.sl q 0 ss.length ss.length false 2, _, n', rfl, fun p hp => ?_, hn', .inr ⟨he, q, by rw [hlen'], by rw [A7, hone], by omega⟩⟩
    rw [A6 _ _ (ne_of_lt (by omega:p.toN<q.toN)).symm]
    cases hprev:prev with
    | none => exact hold p hp
    | some r =>
      have := (hpr r hprev).1
      show A8 p (Af r h' none)=_
      rw [A6 _ _ (ne_of_lt (by omega:p.toN<r.toN)).symm]
      exact hold p hp
end
def Itm.ent (x:Itm):V×V := (.agg [.int .u32 x.t, .str x.m x.c], .int .i64 x.u)
def Mh (es:List (V×V)):(List Itm->R)->R :=
  @List.rec (V×V) (fun _ => (List Itm->R)->R) (fun κ => κ []) (fun e _ ih κ => @Prod.rec V V (fun _ => R) (fun k x => asAgg k fun l => EB l fun a l => EB l fun b l => J3 l (Ey a fun kd t => br (AQ kd .u32) (br (Nat.ble (Nat.succ t) 4294967296) (AR b fun m c => br (Nat.ble (Nat.succ c) (Nat.pow 256 m))
    (Ey x fun ku u => br (AQ ku .i64) (br (Nat.ble (Nat.succ u) 4611686018427387904) (ih fun zs => κ (⟨u, t, m, c⟩::zs)) (.fail "")) (.fail "")) (.fail "")) (.fail "")) (.fail ""))) e) es
def TS (x:Itm):Prop := x.t<4294967296∧x.c<256 ^ x.m∧x.u<4611686018427387904
theorem Lg:∀ {es:List (V×V)} {κ:List Itm->R}, (Mh es κ).good->∃ its, es=its.map Itm.ent∧(∀ x∈its, TS x)∧Mh es κ=κ its
  | [], κ, _ => ⟨[], rfl, fun x hx => by simp at hx, rfl⟩
  | (k, x)::es, κ, h => by
    have e0:Mh ((k, x)::es) κ=asAgg k fun l => EB l fun a l => EB l fun b l => J3 l (Ey a fun kd t => br (AQ kd .u32) (br (Nat.ble (Nat.succ t) 4294967296) (AR b fun m c => br (Nat.ble (Nat.succ c) (Nat.pow 256 m))
      (Ey x fun ku u => br (AQ ku .i64) (br (Nat.ble (Nat.succ u) 4611686018427387904) (Mh es fun zs => κ (⟨u, t, m, c⟩::zs)) (.fail "")) (.fail "")) (.fail "")) (.fail "")) (.fail "")) := rfl
    rw [e0] at h ⊢
    obtain ⟨l, rfl, e1⟩ := Hr h
    rw [e1] at h ⊢
    obtain ⟨a, l, rfl, e2⟩ := Bt h
    rw [e2] at h ⊢
    obtain ⟨b, l, rfl, e3⟩ := Bt h
    rw [e3] at h ⊢
    obtain ⟨rfl, e4⟩ := DF h
    rw [e4] at h ⊢
    obtain ⟨kd, t, rfl, e5⟩ := Fd h
    rw [e5] at h ⊢
    obtain ⟨hk, e6⟩ := Ad h
    rw [e6] at h ⊢
    have := Am.1 hk
    subst this
    obtain ⟨ht, e7⟩ := Ad h
    rw [e7] at h ⊢
    obtain ⟨m, c, rfl, e8⟩ := Bk h
    rw [e8] at h ⊢
    obtain ⟨hc, e9⟩ := Ad h
    rw [e9] at h ⊢
    obtain ⟨ku, u, rfl, e10⟩ := Fd h
    rw [e10] at h ⊢
    obtain ⟨hk2, e11⟩ := Ad h
    rw [e11] at h ⊢
    have := Am.1 hk2
    subst this
    obtain ⟨hu, e12⟩ := Ad h
    rw [e12] at h ⊢
    obtain ⟨its, rfl, hok, e13⟩ := Lg h
    refine ⟨⟨u, t, m, c⟩::its, rfl, fun x hx => ?_, e13⟩
    rcases List.mem_cons.1 hx with rfl | hx
    · exact ⟨A9.1 ht, A9.1 hc, A9.1 hu⟩
    · exact hok x hx
def Fz (t m c:Nat) (tl:List Itm) (κ:R):R :=
  @List.rec Itm (fun _ => R) κ (fun y _ ih => @Itm.rec (fun _ => R) (fun _ t' m' c' => br (Nat.beq c c') (br (Nat.beq m m') (br (Nat.beq t t') (.fail "") ih) ih) ih) y) tl
def M9 (l:List Itm) (κ:R):R := @List.rec Itm (fun _ => R) κ (fun x tl ih => @Itm.rec (fun _ => R) (fun _ t m c => Fz t m c tl ih) x) l
def Qo (x y:Itm):Prop := ¬ (x.t=y.t∧x.m=y.m∧x.c=y.c)
theorem LA {x:Itm}:∀ {tl:List Itm} {κ:R}, (Fz x.t x.m x.c tl κ).good->(∀ y∈tl, Qo x y)∧Fz x.t x.m x.c tl κ=κ
  | [], κ, _ => ⟨fun y hy => by simp at hy, rfl⟩
  | ⟨u, t, m, c⟩::tl, κ, h => by
    have e0:Fz x.t x.m x.c (⟨u, t, m, c⟩::tl) κ=br (Nat.beq x.c c) (br (Nat.beq x.m m) (br (Nat.beq x.t t) (.fail "") (Fz x.t x.m x.c tl κ)) (Fz x.t x.m x.c tl κ)) (Fz x.t x.m x.c tl κ) := rfl
    rw [e0] at h ⊢
    have step:Qo x ⟨u, t, m, c⟩->(Fz x.t x.m x.c tl κ).good->(∀ y∈(⟨u, t, m, c⟩::tl:List Itm), Qo x y)∧Fz x.t x.m x.c tl κ=κ := fun hu hg => by
      obtain ⟨h1, h2⟩ := LA hg
      refine ⟨fun y hy => ?_, h2⟩
      rcases List.mem_cons.1 hy with rfl | hy
      · exact hu
      · exact h1 y hy
    cases h1:Nat.beq x.c c with
    | false =>
      rw [h1, Ag] at h
      rw [Ag]
      exact step (fun e => by rw [show x.c=c from e.2.2, Nat.beq_refl] at h1; cases h1) h
    | true =>
      rw [h1, Ab] at h
      rw [Ab]
      cases h2:Nat.beq x.m m with
      | false =>
        rw [h2, Ag] at h
        rw [Ag]
        exact step (fun e => by rw [show x.m=m from e.2.1, Nat.beq_refl] at h2; cases h2) h
      | true =>
        rw [h2, Ab] at h
        rw [Ab]
        cases h3:Nat.beq x.t t with
        | true => rw [h3] at h; exact h.elim
        | false =>
          rw [h3, Ag] at h
          rw [Ag]
          exact step (fun e => by rw [show x.t=t from e.1, Nat.beq_refl] at h3; cases h3) h
theorem LW:∀ {l:List Itm} {κ:R}, (M9 l κ).good->l.Pairwise Qo∧M9 l κ=κ
  | [], κ, _ => ⟨List.Pairwise.nil, rfl⟩
  | x::l, κ, h => by
    have e0:M9 (x::l) κ=Fz x.t x.m x.c l (M9 l κ) := rfl
    rw [e0] at h ⊢
    obtain ⟨h1, e1⟩ := LA h
    rw [e1] at h ⊢
    obtain ⟨h2, e2⟩ := LW h
    exact ⟨List.pairwise_cons.2 ⟨h1, h2⟩, e2⟩
theorem Kx:∀ {its:List Itm}, its.Pairwise Qo->∀ {x:Itm}, x∈its->Em x.t x.m x.c (its.map Itm.ent)=some (.int .i64 x.u)
  | [], _, x, hx => by simp at hx
  | y::its, hp, x, hx => by
    obtain ⟨h1, h2⟩ := List.pairwise_cons.1 hp
    have e0:Em x.t x.m x.c ((y::its).map Itm.ent)=if x.t=y.t∧x.m=y.m∧x.c=y.c then some (.int .i64 y.u) else Em x.t x.m x.c (its.map Itm.ent) := rfl
    rw [e0]
    rcases List.mem_cons.1 hx with rfl | hx
    · rw [if_pos ⟨rfl, rfl, rfl⟩]
    · rw [if_neg fun e => h1 x hx ⟨e.1.symm, e.2.1.symm, e.2.2.symm⟩]
      exact Kx h2 hx
theorem Rt {its:List Itm} (h:∀ x∈its, TS x):∀ e∈its.map Itm.ent, Cn e := fun e he => by
  obtain ⟨x, hx, rfl⟩ := List.mem_map.1 he
  exact ⟨x.t, x.m, x.c, (h x hx).2.1, rfl⟩
theorem XJ {its:List Itm} (hp:its.Pairwise Qo):(its.map Itm.ent).map (Ep (its.map Itm.ent))=its := by
  rw [List.map_map]
  have:∀ x∈its, (Ep (its.map Itm.ent) ∘ Itm.ent) x=x := fun x hx => by
    show (⟨uOf (its.map Itm.ent) x.t x.m x.c, x.t, x.m, x.c⟩:Itm)=x
    unfold uOf
    rw [Kx hp hx]
  rw [List.map_congr_left this, List.map_id']
/-- Stamps that rise. -/
def Sf (bs:List Nat):Bool := @List.rec Nat (fun _ => Bool) true (fun b tl ih => @List.rec Nat (fun _ => Bool) ih (fun b2 _ _ => br (Nat.ble (Nat.succ b) b2) ih false) tl) bs
theorem TG:∀ {bs:List Nat}, Sf bs=true->bs.Pairwise (· < ·)
  | [], _ => List.Pairwise.nil
  | [b], _ => by simp
  | b::b2::bs, h => by
    have h:br (Nat.ble (Nat.succ b) b2) (Sf (b2::bs)) false=true := h
    cases h1:Nat.ble (Nat.succ b) b2 with
    | false => rw [h1] at h; cases h
    | true =>
      rw [h1, Ab] at h
      have hp := TG h
      have h1:b<b2 := A9.1 h1
      refine List.pairwise_cons.2 ⟨fun z hz => ?_, hp⟩
      rcases List.mem_cons.1 hz with rfl | hz
      · exact h1
      · exact Nat.lt_trans h1 ((List.pairwise_cons.1 hp).1 z hz)
theorem X5 {bs:List Nat} (h:Sf bs=true):bs.Nodup := (TG h).imp fun h => Nat.ne_of_lt h
def noK (o:Option K4) (κ:R):R := @Option.rec K4 (fun _ => R) κ (AH "") o
theorem VU {o:Option K4} {κ:R} {v:V} {h:Heap} {n:K4} (hx:noK o κ = .rv v h n):o=none∧κ = .rv v h n := by
  cases o with
  | none => exact ⟨rfl, hx⟩
  | some r => cases hx
def Xp (hs:Heap) (n M:K4) (j:Nat) (ys:List V):R :=
  @List.rec V (fun _ => R) (.rv (.nil .sl) hs M) (fun _ _ _ => AV n hs (some (.c (.l ys) false none)) fun hf => .rv (.sl n 0 j j false 2) hf M) ys
def Jc (gk g:Nat) (n:K4) (args:List V) (hs:Heap) (acc:List K4):R :=
  EB args fun x l => EB l fun y l => J3 l (Lz x fun gk' ck => br (Nat.beq gk' gk) (EB ck fun zk l => J3 l (J7 zk fun zb zo => Lz y fun g' cc => br (Nat.beq g' g) (EB cc fun cb l => J3 l (J7 cb fun cz co => Hw n acc (
    GD zb hs fun cs _ _ => Xx cs fun xz => BK zo xz fun u => CX u (.fail "") fun pm => J5 pm hs fun es bs clk =>
    GD cz hs fun cs _ pv => noK pv (Xx cs fun cx => BK co cx fun u => J7 u fun lp lo => GD lp hs fun cs _ pv2 => noK pv2 (Xx cs fun lx => BK lo lx fun u => CX u (.fail "") fun pm2 => br (K4.beq pm2 pm)
      (br (FK zb n) (br (FK pm n) (br (FK cz n) (br (FK lp n) (br (DH clk bs) (br (Ge es bs) (br (Sf bs) (PL es fun j => br (Nat.ble j 1000000) (Mh es fun its => M9 its (Ts its fun ys => FO ys (OQ ys fun zs =>
        Ac (Nat.add 3 (Nat.mul 4 j)) fun d => ZJ d n fun M => Xp hs n M j zs))) (.fail "")) (.fail "")) (.fail "")) (.fail "")) (.fail "")) (.fail "")) (.fail "")) (.fail "")) (.fail "")))))) (.fail ""))) (.fail ""))
def GP (gk g:Nat):Ma := fun args h n => XE 400 (Jc gk g n args) args h n
section
variable {P:Program} {ρ:Env} {B:Nat}
theorem SF {x:V} {κ:Nat->List V->R} {v:V} {h:Heap} {n:K4} (hx:Lz x κ = .rv v h n):∃ f l, x = .fn f l∧κ f l = .rv v h n := by
  obtain ⟨f, l, rfl, e⟩ := Ig (AU hx)
  exact ⟨f, l, rfl, by rw [←e]; exact hx⟩
theorem OO {l:List V} {κ:V->List V->R} {v:V} {h:Heap} {n:K4} (hx:EB l κ = .rv v h n):∃ a l', l=a::l'∧κ a l' = .rv v h n := by
  obtain ⟨a, l', rfl, e⟩ := Bt (AU hx)
  exact ⟨a, l', rfl, by rw [←e]; exact hx⟩
theorem S8 {l:List V} {κ:R} {v:V} {h:Heap} {n:K4} (hx:J3 l κ = .rv v h n):l=[]∧κ = .rv v h n := by
  obtain ⟨rfl, e⟩ := DF (AU hx)
  exact ⟨rfl, by rw [←e]; exact hx⟩
theorem Ru {cs:Cs} {κ:List V->R} {v:V} {h:Heap} {n:K4} (hx:Xx cs κ = .rv v h n):∃ xs, cs = .l xs∧κ xs = .rv v h n := by
  obtain ⟨xs, rfl, e⟩ := HO (AU hx)
  exact ⟨xs, rfl, by rw [←e]; exact hx⟩
/-- slices.SortedFunc OF A MAP's KEYS IS SO. -/
theorem Uc (hρ:B4 ρ) (hmix:P.follows .mixedOrders=true) {T:FC} (hT:Hq P ρ B T) {f fA:FuncId} {kc ks:K3} {gk g:Nat} {its:List Nat} (hf:BD (AI f) T=some (Th kc ks)) (hc:BD kc T=some (ZI (AI fA))) (hks:BD ks T=some (.prim (GR g))) (hA:BD (AI fA) T=some (.ap fA its R7))
    (hK:BD (AI gk) T=some Rw) (hits:∀ κ, Iv gk its κ=κ):Ko P ρ B f (GP gk g) := by
  intro args h n v h1 n1 hx φ w xs gm hr
  refine SB (hr := hx) gm ?_
  intro hs acc v1 hh1 m1 m sub hcan res hOld hm1 gs
  unfold Jc at hcan
  obtain ⟨x, l, rfl, c1⟩ := OO hcan
  obtain ⟨y, l, rfl, c2⟩ := OO c1
  obtain ⟨rfl, c3⟩ := S8 c2
  obtain ⟨gk', ck, rfl, c4⟩ := SF c3
  obtain ⟨e1, c5⟩ := CK c4
  obtain rfl := Nat.eq_of_beq_eq_true e1
  obtain ⟨zk, l, rfl, c6⟩ := OO c5
  obtain ⟨rfl, c7⟩ := S8 c6
  obtain ⟨zb, zo, rfl, c8⟩ := Ms c7
  obtain ⟨g', cc, rfl, c9⟩ := SF c8
  obtain ⟨e2, c10⟩ := CK c9
  obtain rfl := Nat.eq_of_beq_eq_true e2
  obtain ⟨cb, l, rfl, c11⟩ := OO c10
  obtain ⟨rfl, c12⟩ := S8 c11
  obtain ⟨cz, co, rfl, c13⟩ := Ms c12
  obtain ⟨hacc, q7⟩ := HV (AU c13)
  rw [q7] at c13
  clear q7
  obtain ⟨cs, s0, p0, hzb, c14⟩ := IR c13
  obtain ⟨xz, rfl, c15⟩ := Ru c14
  obtain ⟨u, hzo, c16⟩ := If c15
  obtain ⟨pm, rfl, c17⟩ := Jo c16
  obtain ⟨es, bs, clk, hpm, c18⟩ := RZ c17
  obtain ⟨cs, s1, p1, hcz, c19⟩ := IR c18
  obtain ⟨rfl, c20⟩ := VU c19
  obtain ⟨cx, rfl, c21⟩ := Ru c20
  obtain ⟨u, hco, c22⟩ := If c21
  obtain ⟨lp, lo, rfl, c23⟩ := Ms c22
  obtain ⟨cs, s2, p2, hlp, c24⟩ := IR c23
  obtain ⟨rfl, c25⟩ := VU c24
  obtain ⟨lx, rfl, c26⟩ := Ru c25
  obtain ⟨u, hlo, c27⟩ := If c26
  obtain ⟨pm2, rfl, c28⟩ := Jo c27
  obtain ⟨e3, c29⟩ := CK c28
  obtain rfl := K4.beq_iff.1 e3
  obtain ⟨l1, c30⟩ := CK c29
  obtain ⟨l2, c31⟩ := CK c30
  obtain ⟨l3, c32⟩ := CK c31
  obtain ⟨l4, c33⟩ := CK c32
  obtain ⟨l5, c34⟩ := CK c33
  obtain ⟨l6, c35⟩ := CK c34
  obtain ⟨l7, c36⟩ := CK c35
  rw [OR] at c36
  obtain ⟨l8, c37⟩ := CK c36
  have l1 := Bj.1 l1
  have l2 := Bj.1 l2
  have l3 := Bj.1 l3
  have l4 := Bj.1 l4
  have l6 := IZ l6
  have l7 := X5 l7
  have l8 := A9.1 l8
  obtain ⟨its', hes, hB, q⟩ := Lg (AU c37)
  rw [q] at c37
  clear q
  obtain ⟨hU, q⟩ := LW (AU c37)
  rw [q] at c37
  clear q
  have hS:∀ e∈es, Cn e := by rw [hes]; exact Rt hB
  have hit:its'=es.map (Ep es) := by rw [hes]; exact (XJ hU).symm
  have hok:∀ x∈its', PC es x := fun x hx => ⟨(hB x hx).1, (hB x hx).2.1, (hB x hx).2.2, by rw [hes]; exact Kx hU hx⟩
  subst hit
  rw [HE] at c37
  obtain ⟨hst, q⟩ := GG (AU c37)
  rw [q, Gr, Aa] at c37
  clear q
  obtain ⟨M, hM, q⟩ := Lv (AU c37)
  rw [q] at c37
  clear q
  have hM:M.toN=n.toN+(3+4*es.length) := hM
  have key := PO (mm := 95) hf hc hks hA hK hits hzb hzo hpm hcz hco hlp hlo l6 l7 l5 hS hok hst l1 l2 l3 l4 (M.toN_max) (by omega) l8
  refine (Kh hρ hmix hT 100).1 f _ hs n _ (R.sat_mono ?_ key) φ w xs gs hr
  rintro r ⟨v', h', n', rfl, hold, hn', hres⟩
  rcases hres with ⟨h0, rfl⟩ | ⟨h0, q, rfl, hq, hqn⟩
  · subst h0
    replace c37:R.rv (.nil .sl) hs M = .rv v1 hh1 m1 := c37
    cases c37
    exact ⟨.inl ⟨rfl, rfl⟩, fun p hp => ⟨(hold p (hacc p hp)).symm, hOld p hp⟩, by omega⟩
  · have c37:R.rv (.sl n 0 es.length es.length false 2) (Af n hs (some (.c (.l (AE (Cd (es.map (Ep es))))) false none))) M = .rv v1 hh1 m1 := by
      rw [←c37]
      have hll:(Cd (es.map (Ep es))).length=es.length := by rw [(Cj _).length_eq, List.length_map]
      generalize Cd (es.map (Ep es))=sl at hll ⊢
      cases sl with
      | nil => exact absurd (List.eq_nil_of_length_eq_zero hll.symm) h0
      | cons s sl =>
        show _=AV n hs (some (.c (.l (AE (s::sl))) false none)) fun hf => .rv (.sl n 0 es.length es.length false 2) hf M
        rw [Cx]
    cases c37
    have hno:EI n (.sl n 0 es.length es.length false 2)=false := by
      show FK n n=false
      cases hl:FK n n with
      | false => rfl
      | true => have := Bj.1 hl; omega
    rcases res with ⟨ho, _⟩ | ⟨_, p, p', off', len', cap', ex', esz', e1, e2, hp1, hp2, hcl, hob⟩
    · rw [hno] at ho; cases ho
    · cases e1
      refine ⟨.inr ⟨hno, n, q, 0, _, _, false, 2, rfl, rfl, Nat.le_refl _, hqn, by rw [A7, hq], hob⟩, fun p hp => ⟨?_, hOld p hp⟩, by omega⟩
      rw [A6 _ _ (ne_of_lt (hacc p hp)).symm]
      exact (hold p (hacc p hp)).symm
end
end Go.Ev

namespace Go.Ev
set_option linter.unusedVariables false
def Itm.isB (t m c:Nat) (x:Itm):Bool := decide (t=x.t∧m=x.m∧c=x.c)
def GA (v t m c:Nat):List Itm->List Itm
  | [] => [⟨v, t, m, c⟩]
  | x::l => bif Itm.isB t m c x then ⟨v, t, m, c⟩::l else x::GA v t m c l
def Dc (t m c:Nat):List Itm->List Itm
  | [] => []
  | x::l => bif Itm.isB t m c x then l else x::Dc t m c l
def LT (t m c:Nat):List Itm->List Nat->List Nat
  | x::l, b::bs => bif Itm.isB t m c x then bs else b::LT t m c l bs
  | _, bs => bs
def Jf (t m c:Nat):List Itm->Nat
  | [] => 0
  | x::l => bif Itm.isB t m c x then x.u else Jf t m c l
theorem QA {t m c:Nat} {κ:V->R}:∀ its:List Itm, BR (.ks [.i, .s]) (.agg [.int .u32 t, .str m c]) (its.map Itm.ent) κ (κ (.int .i64 0))=κ (.int .i64 (Jf t m c its))
  | [] => rfl
  | x::l => by
    show K0 (.ks [.i, .s]) (.agg [.int .u32 t, .str m c]) (.agg [.int .u32 x.t, .str x.m x.c]) (fun r => br r (κ (.int .i64 x.u)) (BR (.ks [.i, .s]) (.agg [.int .u32 t, .str m c]) (l.map Itm.ent) κ (κ (.int .i64 0))))=_
    rw [JA, QA l, Jf, Itm.isB]
    cases decide (t=x.t∧m=x.m∧c=x.c) <;> rfl
theorem T9 {v t m c:Nat}:∀ (its:List Itm) (κ:List (V×V)->R), GF (.ks [.i, .s]) (.agg [.int .u32 t, .str m c]) (.int .i64 v) (its.map Itm.ent) κ=κ ((GA v t m c its).map Itm.ent)
  | [], κ => rfl
  | x::l, κ => by
    show K0 (.ks [.i, .s]) (.agg [.int .u32 t, .str m c]) (.agg [.int .u32 x.t, .str x.m x.c]) (fun r => br r (κ ((.agg [.int .u32 t, .str m c], .int .i64 v)::l.map Itm.ent)) (GF (.ks [.i, .s]) (.agg [.int .u32 t, .str m c]) (.int .i64 v) (l.map Itm.ent) fun l' => κ (x.ent::l')))=_
    rw [JA, T9 l, GA, Itm.isB]
    cases decide (t=x.t∧m=x.m∧c=x.c) <;> rfl
theorem Ta {t m c:Nat}:∀ (its:List Itm) (κ:List (V×V)->R), GV (.ks [.i, .s]) (.agg [.int .u32 t, .str m c]) (its.map Itm.ent) κ=κ ((Dc t m c its).map Itm.ent)
  | [], κ => rfl
  | x::l, κ => by
    show K0 (.ks [.i, .s]) (.agg [.int .u32 t, .str m c]) (.agg [.int .u32 x.t, .str x.m x.c]) (fun r => br r (κ (l.map Itm.ent)) (GV (.ks [.i, .s]) (.agg [.int .u32 t, .str m c]) (l.map Itm.ent) fun l' => κ (x.ent::l')))=_
    rw [JA, Ta l, Dc, Itm.isB]
    cases decide (t=x.t∧m=x.m∧c=x.c) <;> rfl
theorem Q6 {t m c:Nat}:∀ (its:List Itm) (bs:List Nat) (κ:List Nat->R), its.length=bs.length->GN (.ks [.i, .s]) (.agg [.int .u32 t, .str m c]) (its.map Itm.ent) bs κ=κ (LT t m c its bs)
  | [], bs, κ, h => by
    obtain rfl := List.eq_nil_of_length_eq_zero h.symm
    rfl
  | x::l, [], κ, h => by cases h
  | x::l, b::bs, κ, h => by
    show K0 (.ks [.i, .s]) (.agg [.int .u32 t, .str m c]) (.agg [.int .u32 x.t, .str x.m x.c]) (fun r => br r (κ bs) (GN (.ks [.i, .s]) (.agg [.int .u32 t, .str m c]) (l.map Itm.ent) bs fun l' => κ (b::l')))=_
    rw [JA, Q6 l bs _ (Nat.succ.inj h), LT, Itm.isB]
    cases decide (t=x.t∧m=x.m∧c=x.c) <;> rfl
theorem Lw {t m c:Nat}:∀ (its:List Itm) (bs:List Nat), (LT t m c its bs).Sublist bs
  | [], bs => by rw [LT]; exact List.Sublist.refl _; intros; simp_all
  | x::l, [] => by rw [LT]; exact List.Sublist.refl _; intros; simp_all
  | x::l, b::bs => by
    rw [LT]
    cases Itm.isB t m c x with
    | true => exact List.sublist_cons_self b bs
    | false => exact (Lw l bs).cons_cons b
theorem Qb {t m c:Nat}:∀ (its:List Itm) (bs:List Nat), its.length=bs.length->(Dc t m c its).length=(LT t m c its bs).length
  | [], bs, h => by
    obtain rfl := List.eq_nil_of_length_eq_zero h.symm
    rfl
  | x::l, [], h => by cases h
  | x::l, b::bs, h => by
    rw [Dc, LT]
    cases Itm.isB t m c x with
    | true => exact Nat.succ.inj h
    | false => show (x::Dc t m c l).length=(b::LT t m c l bs).length; rw [List.length_cons, List.length_cons, Qb l bs (Nat.succ.inj h)]
/-- The stamps. -/
structure StOK (its:List Itm) (bs:List Nat) (k:Nat):Prop where
  len:its.length=bs.length
  inc:bs.Pairwise (· < ·)
  lt:∀ b∈bs, b<k
theorem StOK.nil:StOK [] [] 0 := ⟨rfl, List.Pairwise.nil, fun b h => by cases h⟩
theorem PB {v t m c:Nat}:∀ its:List Itm, (GA v t m c its).length=its.length∨(GA v t m c its).length=its.length+1
  | [] => .inr rfl
  | x::l => by
    rw [GA]
    cases Itm.isB t m c x with
    | true => exact .inl rfl
    | false =>
      show (x::GA v t m c l).length=_∨(x::GA v t m c l).length=_
      rw [List.length_cons, List.length_cons]
      rcases PB (v := v) (t := t) (m := m) (c := c) l with h | h <;> omega
section
variable {h:Heap} {p:K4} {its:List Itm} {bs:List Nat} {k:Nat}
theorem Aai (hp:A8 p h=some (.m (its.map Itm.ent) bs k)) (ok:StOK its bs k) (v t m c:Nat) :
    ∃ bs' k', (∀ κ:Heap->R, U4 (.ks [.i, .s]) (.map p) (.agg [.int .u32 t, .str m c]) (.int .i64 v) h κ=κ (Af p h (some (.m ((GA v t m c its).map Itm.ent) bs' k'))))∧StOK (GA v t m c its) bs' k' := by
  have e:∀ κ:Heap->R, U4 (.ks [.i, .s]) (.map p) (.agg [.int .u32 t, .str m c]) (.int .i64 v) h κ=Xv ((GA v t m c its).map Itm.ent) bs k fun bs' k' => κ (Af p h (some (.m ((GA v t m c its).map Itm.ent) bs' k'))) := fun κ => by
    show PM p h (fun es bs c' k => GF (.ks [.i, .s]) (.agg [.int .u32 t, .str m c]) (.int .i64 v) es fun es => Xv es bs c' fun bs c => k es bs c) κ=_
    rw [Jx, Iz, hp, Pm, T9]
    simp only [AA]
  have hl:((GA v t m c its).map Itm.ent).length=(GA v t m c its).length := List.length_map _
  rcases PB (v := v) (t := t) (m := m) (c := c) its with h1 | h1
  · refine ⟨bs, k, fun κ => ?_, by rw [h1]; exact ok.len, ok.inc, ok.lt⟩
    rw [e, T7, hl, h1, decide_eq_true ok.len]; rfl
  · refine ⟨bs++[k], k+1, fun κ => ?_, by rw [h1, List.length_append, ok.len]; rfl, List.pairwise_append.2 ⟨ok.inc, by simp, fun a ha b hb => by rw [List.mem_singleton.1 hb]; exact ok.lt a ha⟩, fun b hb => ?_⟩
    · rw [e, T7, hl, h1, decide_eq_false (by rw [ok.len]; omega)]; rfl
    · rcases List.mem_append.1 hb with hb | hb
      · have := ok.lt b hb; omega
      · rw [List.mem_singleton.1 hb]; omega
theorem ZX (hp:A8 p h=some (.m (its.map Itm.ent) bs k)) (ok:StOK its bs k) (t m c:Nat) :
    ∃ bs', (∀ κ:Heap->R, PQ (.ks [.i, .s]) (.map p) (.agg [.int .u32 t, .str m c]) h κ=κ (Af p h (some (.m ((Dc t m c its).map Itm.ent) bs' k))))∧StOK (Dc t m c its) bs' k := by
  refine ⟨LT t m c its bs, fun κ => ?_, Qb _ _ ok.len, ok.inc.sublist (Lw _ _), fun b hb => ok.lt b ((Lw _ _).subset hb)⟩
  show PM p h (fun es bs c' k => GV (.ks [.i, .s]) (.agg [.int .u32 t, .str m c]) es fun es2 => GN (.ks [.i, .s]) (.agg [.int .u32 t, .str m c]) es bs fun bs => k es2 bs c') κ=_
  rw [Jx, Iz, hp, Pm, Ta, Q6 _ _ _ ok.len]
  simp only [AA]
theorem YO (hp:A8 p h=some (.m (its.map Itm.ent) bs k)) (t m c:Nat) (κ:V->R):QL (.ks [.i, .s]) (.int .i64 0) false (.map p) (.agg [.int .u32 t, .str m c]) h κ=κ (.int .i64 (Jf t m c its)) := by
  show J5 p h (fun es _ _ => BR (.ks [.i, .s]) (.agg [.int .u32 t, .str m c]) es (fun r => κ r) (κ (.int .i64 0)))=_
  rw [FD, Iz, hp, Pm, QA]
end
theorem Oj {n:K4}:∀ {acc:List K4} (κ:R), (∀ p∈acc, p.toN<n.toN)->Hw n acc κ=κ
  | [], κ, _ => rfl
  | q::acc, κ, h => by
    show br (FK q n) (Hw n acc κ) (.fail "")=_
    rw [Bj.2 (h q (List.mem_cons_self ..)), Ab, Oj κ fun p hp => h p (List.mem_cons_of_mem _ hp)]
theorem ZZ (j:Nat):∀ {p:K4}, p.toN+j<65535->∃ q:K4, q.toN=p.toN+j ∧ ∀ κ:K4->R, ZJ j p κ=κ q := by
  induction j with
  | zero => exact fun {p} _ => ⟨p, (Nat.add_zero _).symm, fun κ => rfl⟩
  | succ j ih =>
    intro p h
    have u := K4.up_toN (p := p) (by omega)
    obtain ⟨q, h1, h2⟩ := ih (p := p.up) (by omega)
    refine ⟨q, by omega, fun κ => ?_⟩
    show p.nx (fun p => ZJ j p κ)=_
    rw [K4.nx_up (by omega), h2]
theorem Ie {h hs:Heap} {k:Nat} {p:K4} {todo acc:List K4} {κ:Heap->List K4->R} {ob:Ob} (h1:A8 p hs=none) (h2:A8 p h=some ob) (h3:Ez ob=true):Bb h (k+1) (p::todo) hs acc κ=Bb h k (Pg ob todo) (Af p hs (some (Kb ob))) (p::acc) κ := by
  show AT p hs (fun o => @Option.rec Ob (fun _ => R) (AT p h fun o => @Option.rec Ob (fun _ => R) (Bb h k todo hs acc κ) (fun ob => br (Ez ob) (AV p hs (some (Kb ob)) fun hs => Bb h k (Pg ob todo) hs (p::acc) κ) (Bb h k todo hs acc κ)) o) (fun _ => Bb h k todo hs acc κ) o)=_
  rw [AB, h1, AB, h2]
  show br (Ez ob) (AV p hs (some (Kb ob)) fun hs => Bb h k (Pg ob todo) hs (p::acc) κ) (Bb h k todo hs acc κ)=_
  rw [h3, Ab, Bf, AA]
theorem Uy {h hs:Heap} {k:Nat} {p:K4} {todo acc:List K4} {κ:Heap->List K4->R} {ob:Ob} (h1:A8 p hs=some ob):Bb h (k+1) (p::todo) hs acc κ=Bb h k todo hs acc κ := by
  show AT p hs (fun o => @Option.rec Ob (fun _ => R) (AT p h fun o => @Option.rec Ob (fun _ => R) (Bb h k todo hs acc κ) (fun ob => br (Ez ob) (AV p hs (some (Kb ob)) fun hs => Bb h k (Pg ob todo) hs (p::acc) κ) (Bb h k todo hs acc κ)) o) (fun _ => Bb h k todo hs acc κ) o)=_
  rw [AB, h1]
theorem Vz {h hs:Heap} {k:Nat} {acc:List K4} {κ:Heap->List K4->R}:Bb h (k+1) [] hs acc κ=κ hs acc := rfl
theorem PH (a:List K4):∀ its:List Itm, Aaa (its.map Itm.ent) a=a
  | [] => rfl
  | x::l => PH a l
theorem Oz (n:K4):∀ its:List Itm, JU n (AE its)=true
  | [] => rfl
  | x::l => Oz n l
theorem JQ (a c:Nat) (κ:R):AN (.str a c) (.str a c) κ=κ := by
  show br (Dl a c a c) κ _=_
  rw [Hz, decide_eq_true rfl, decide_eq_true rfl]; rfl
theorem MV:∀ (its:List Itm) (κ:R), AN (.tup (AE its)) (.tup (AE its)) κ=κ
  | [], κ => rfl
  | x::l, κ => by
    show AN (.int .u32 x.t) (.int .u32 x.t) (AN (.str x.m x.c) (.str x.m x.c) (AN (.tup (AE l)) (.tup (AE l)) κ))=_
    rw [Ka, JQ, MV l]
theorem KJ:∀ (l:List Nat) (κ:R), Hn l l κ=κ
  | [], κ => rfl
  | x::l, κ => by
    show br (Nat.beq x x) (Hn l l κ) (.fail "")=_
    rw [Nat.beq_refl, Ab, KJ l]
theorem Ll (n:K4):∀ (its:List Itm) (κ:R), HP n (its.map Itm.ent) (its.map Itm.ent) κ=κ
  | [], κ => rfl
  | x::l, κ => by
    show AN (.int .u32 x.t) (.int .u32 x.t) (AN (.str x.m x.c) (.str x.m x.c) (AN (.int .i64 x.u) (.int .i64 x.u) (HP n (l.map Itm.ent) (l.map Itm.ent) κ)))=_
    rw [Ka, JQ, Ka, Ll n l]
theorem WQ (n:K4) (its:List Itm) (bs:List Nat) (k:Nat) (κ:R):Dr n (some (.m (its.map Itm.ent) bs k)) (some (.m (its.map Itm.ent) bs k)) κ=κ := by
  show br (Nat.beq k k) (Hn bs bs (HP n (its.map Itm.ent) (its.map Itm.ent) κ)) (.fail "")=_
  rw [Nat.beq_refl, Ab, KJ, Ll]
theorem JS {n:K4} {xs:List V} {κ:R} (h1:JU n xs=true) (h2:AN (.tup xs) (.tup xs) κ=κ):Dr n (some (.c (.l xs) false none)) (some (.c (.l xs) false none)) κ=κ := by
  show br (JU n xs) (AN (.tup xs) (.tup xs) κ) (.fail "")=_
  rw [h1, Ab, h2]
theorem J4 {n:K4} {h1:Heap}:∀ (acc:List K4) (κ:R), (∀ p∈acc, ∀ κ:R, Dr n (A8 p h1) (A8 p h1) κ=κ)->D7 n h1 h1 acc κ=κ
  | [], κ, _ => rfl
  | p::acc, κ, h => by
    show AT p h1 (fun a => AT p h1 fun b => Dr n a b (D7 n h1 h1 acc κ))=_
    rw [AB, AB, h p (List.mem_cons_self ..), J4 acc κ fun q hq => h q (List.mem_cons_of_mem _ hq)]
theorem I2 {h h1:Heap} {p:K4} {acc:List K4} {ob:Ob} (ho:A8 p h=some ob) (hk:Bu ob=none) (κ:Heap->R):G5 h h1 (p::acc) κ=G5 h h1 acc fun hf => κ (Af p hf (A8 p h1)) := by
  show G5 h h1 acc (fun hf => AT p h fun o => @Option.rec Ob (fun _ => R) (.fail "") (fun o => Mo o hf fun hf => AT p h1 fun o1 => AV p hf o1 κ) o)=_
  congr 1
  funext hf
  rw [AB, ho]
  have:∀ κ':Heap->R, Mo ob hf κ'=κ' hf := fun κ' => by
    cases ob with
    | c cs s pr => obtain rfl:pr=none := hk; rfl
    | _ => rfl
  show Mo ob hf (fun hf => AT p h1 fun o1 => AV p hf o1 κ)=_
  rw [this, AB, Bf, AA]
theorem MY:∀ {its:List Itm} {κ:List Itm->R}, (∀ x∈its, TS x)->Mh (its.map Itm.ent) κ=κ its
  | [], κ, _ => rfl
  | x::l, κ, h => by
    obtain ⟨h1, h2, h3⟩ := h x (List.mem_cons_self ..)
    show br (AQ .u32 .u32) (br (Nat.ble (Nat.succ x.t) 4294967296) (br (Nat.ble (Nat.succ x.c) (Nat.pow 256 x.m)) (br (AQ .i64 .i64) (br (Nat.ble (Nat.succ x.u) 4611686018427387904) (Mh (l.map Itm.ent) fun zs => κ (⟨x.u, x.t, x.m, x.c⟩::zs)) (.fail "")) (.fail "")) (.fail "")) (.fail "")) (.fail "")=_
    rw [Am.2 rfl, Ab, A9.2 h1, Ab, A9.2 (show Nat.succ x.c≤Nat.pow 256 x.m from h2), Ab, Am.2 rfl, Ab, A9.2 h3, Ab, MY fun y hy => h y (List.mem_cons_of_mem _ hy)]
theorem Q2 {x:Itm}:∀ {tl:List Itm} {κ:R}, (∀ y∈tl, Qo x y)->Fz x.t x.m x.c tl κ=κ
  | [], κ, _ => rfl
  | y::tl, κ, h => by
    have hu := h y (List.mem_cons_self ..)
    show br (Nat.beq x.c y.c) (br (Nat.beq x.m y.m) (br (Nat.beq x.t y.t) (.fail "") (Fz x.t x.m x.c tl κ)) (Fz x.t x.m x.c tl κ)) (Fz x.t x.m x.c tl κ)=_
    rw [Q2 fun z hz => h z (List.mem_cons_of_mem _ hz)]
    cases h1:Nat.beq x.c y.c with
    | false => rfl
    | true =>
      cases h2:Nat.beq x.m y.m with
      | false => rfl
      | true =>
        cases h3:Nat.beq x.t y.t with
        | false => rfl
        | true => exact absurd ⟨Nat.eq_of_beq_eq_true h3, Nat.eq_of_beq_eq_true h2, Nat.eq_of_beq_eq_true h1⟩ hu
theorem Q4:∀ {l:List Itm} {κ:R}, l.Pairwise Qo->M9 l κ=κ
  | [], κ, _ => rfl
  | x::l, κ, h => by
    obtain ⟨h1, h2⟩ := List.pairwise_cons.1 h
    show Fz x.t x.m x.c l (M9 l κ)=_
    rw [Q2 h1, Q4 h2]
theorem Sm:∀ {bs:List Nat}, bs.Pairwise (· < ·)->Sf bs=true
  | [], _ => rfl
  | [b], _ => rfl
  | b::b2::bs, h => by
    obtain ⟨h1, h2⟩ := List.pairwise_cons.1 h
    show br (Nat.ble (Nat.succ b) b2) (Sf (b2::bs)) false=true
    rw [A9.2 (h1 b2 (List.mem_cons_self ..)), Ab, Sm h2]
theorem PX {k:Nat}:∀ {bs:List Nat}, (∀ b∈bs, b<k)->DH k bs=true
  | [], _ => rfl
  | b::bs, h => by rw [IN, decide_eq_true (h b (List.mem_cons_self ..)), PX fun x hx => h x (List.mem_cons_of_mem _ hx)]; rfl
/-- slices.SortedFunc of a map's keys: the keys in the order of their numbers. -/
theorem TY {gk g:Nat} {h:Heap} {n zb pm cz lp:K4} {its L:List Itm} {bs:List Nat} {k k1:Nat}
    (hzb:A8 zb h=some (.c (.l [.map pm]) false none)) (hpm:A8 pm h=some (.m (its.map Itm.ent) bs k)) (hcz:A8 cz h=some (.c (.l [.ptr lp 0]) false none)) (hlp:A8 lp h=some (.c (.l [.map pm, .int .i64 k1]) false none)) (ok:StOK its bs k)
    (hB:∀ x∈its, TS x) (hU:its.Pairwise Qo) (hL:L.Perm its) (hst:L.Pairwise fun a b => a.u<b.u) (h1:zb.toN<n.toN) (h2:pm.toN<n.toN) (h3:cz.toN<n.toN) (h4:lp.toN<n.toN) (hn:n.toN+4*its.length+5<65535) (hz:zb≠cz) (hzl:zb≠lp) (hcl:cz≠lp) :
    ∃ M h', (its=[]->GP gk g [.fn gk [.ptr zb 0], .fn g [.ptr cz 0]] h n = .rv (.nil .sl) h' M)∧(its≠[]->∃ M', M'.toN+1=M.toN∧n.toN≤M'.toN∧GP gk g [.fn gk [.ptr zb 0], .fn g [.ptr cz 0]] h n = .rv (.sl M' 0 L.length L.length false 2) h' M∧A8 M' h'=some (.c (.l (AE L)) false none)) ∧
      n.toN≤M.toN∧M.toN≤n.toN+4*its.length+4∧(∀ q:K4, q.toN<n.toN->A8 q h'=A8 q h)∧(∀ q:K4, M.toN≤q.toN->A8 q h'=A8 q h) := by
  have hzp:zb≠pm := fun e => by subst e; rw [hzb] at hpm; cases hpm
  have hcp:cz≠pm := fun e => by subst e; rw [hcz] at hpm; cases hpm
  have hlpm:lp≠pm := fun e => by subst e; rw [hlp] at hpm; cases hpm
  have hso:Cd its=L := IV hst hL (Cj its) (Gf its)
  have hll:L.length=its.length := hL.length_eq
  obtain ⟨M, hM, eM⟩ := ZZ (3+4*its.length) (p := n) (by omega)
  have uM := K4.up_toN (p := M) (by omega)
  generalize hhs:Af lp (Af cz (Af pm (Af zb Aq (some (.c (.l [.map pm]) false none))) (some (.m (its.map Itm.ent) bs k))) (some (.c (.l [.ptr lp 0]) false none))) (some (.c (.l [.map pm, .int .i64 k1]) false none))=hs
  have s1:A8 zb hs=some (.c (.l [.map pm]) false none) := by rw [←hhs, A6 _ _ hzl.symm, A6 _ _ hz.symm, A6 _ _ hzp.symm, A7]
  have s2:A8 pm hs=some (.m (its.map Itm.ent) bs k) := by rw [←hhs, A6 _ _ hlpm, A6 _ _ hcp, A7]
  have s3:A8 cz hs=some (.c (.l [.ptr lp 0]) false none) := by rw [←hhs, A6 _ _ hcl.symm, A7]
  have s4:A8 lp hs=some (.c (.l [.map pm, .int .i64 k1]) false none) := by rw [←hhs, A7]
  have e0:GP gk g [.fn gk [.ptr zb 0], .fn g [.ptr cz 0]] h n=Xc n h [lp, cz, pm, zb] (Jc gk g n [.fn gk [.ptr zb 0], .fn g [.ptr cz 0]] hs [lp, cz, pm, zb]) := by
    show Bb h (399+1) [zb, cz] Aq [] (fun hs acc => Xc n h acc (Jc gk g n [.fn gk [.ptr zb 0], .fn g [.ptr cz 0]] hs acc))=_
    rw [Ie (BQ _) hzb rfl]
    show Bb h (398+1) [pm, cz] (Af zb Aq (some (.c (.l [.map pm]) false none))) [zb] _=_
    rw [Ie (by rw [A6 _ _ hzp, BQ]) hpm rfl]
    show Bb h (397+1) (Aaa (its.map Itm.ent) [cz]) (Af pm (Af zb Aq (some (.c (.l [.map pm]) false none))) (some (.m (its.map Itm.ent) bs k))) [pm, zb] _=_
    rw [PH, Ie (by rw [A6 _ _ hcp.symm, A6 _ _ hz, BQ]) hcz rfl]
    show Bb h (396+1) [lp] (Af cz (Af pm (Af zb Aq (some (.c (.l [.map pm]) false none))) (some (.m (its.map Itm.ent) bs k))) (some (.c (.l [.ptr lp 0]) false none))) [cz, pm, zb] _=_
    rw [Ie (by rw [A6 _ _ hcl, A6 _ _ hlpm.symm, A6 _ _ hzl, BQ]) hlp rfl]
    show Bb h (395+1) [pm] (Af lp (Af cz (Af pm (Af zb Aq (some (.c (.l [.map pm]) false none))) (some (.m (its.map Itm.ent) bs k))) (some (.c (.l [.ptr lp 0]) false none))) (some (.c (.l [.map pm, .int .i64 k1]) false none))) [lp, cz, pm, zb] _=_
    rw [hhs, Uy s2, Vz]
  have e1:Jc gk g n [.fn gk [.ptr zb 0], .fn g [.ptr cz 0]] hs [lp, cz, pm, zb]=Xp hs n M its.length (AE L) := by
    show br (Nat.beq gk gk) (br (Nat.beq g g) (Hw n [lp, cz, pm, zb] (GD zb hs _)) _) _=_
    rw [Nat.beq_refl, Ab, Nat.beq_refl, Ab, Oj _ (by simp [h1, h2, h3, h4]), Ew s1]
    show J5 pm hs _=_
    rw [Fw s2, Ew s3]
    show GD lp hs _=_
    rw [Ew s4]
    show br (K4.beq pm pm) (br (FK zb n) (br (FK pm n) (br (FK cz n) (br (FK lp n) (br (DH k bs) (br (Ge (its.map Itm.ent) bs) (br (Sf bs) (PL (its.map Itm.ent) _) _) _) _) _) _) _) _) _=_
    rw [K4.beq_self, Ab, Bj.2 h1, Ab, Bj.2 h2, Ab, Bj.2 h3, Ab, Bj.2 h4, Ab, PX ok.lt, Ab, Mc, decide_eq_true (by rw [List.length_map]; exact ok.len), Ab, Sm ok.inc, Ab, Vh, List.length_map, A9.2 (show its.length≤1000000 by omega), Ab, MY hB, Q4 hU, HE, hso, IX hst, Gr, Aa]
    exact eM _
  have hA:∀ p∈[lp, cz, pm, zb], ∀ (h1':Heap), (∀ q∈[lp, cz, pm, zb], A8 q h1'=A8 q hs)->∀ κ:R, Dr n (A8 p h1') (A8 p h1') κ=κ := by
    intro p hp h1' hq κ
    rw [hq p hp]
    simp only [List.mem_cons, List.not_mem_nil, or_false] at hp
    rcases hp with rfl | rfl | rfl | rfl
    · rw [s4]
      exact JS (by show br (FK pm n) true false=true; rw [Bj.2 h2]; rfl) (by show AN (.map pm) (.map pm) (AN (.int .i64 k1) (.int .i64 k1) κ)=κ; rw [Vp, Ka])
    · rw [s3]
      exact JS (by show br (FK lp n) true false=true; rw [Bj.2 h4]; rfl) (by show AN (.ptr lp 0) (.ptr lp 0) κ=κ; rw [Aak])
    · rw [s2]; exact WQ _ _ _ _ _
    · rw [s1]
      exact JS (by show br (FK pm n) true false=true; rw [Bj.2 h2]; rfl) (by show AN (.map pm) (.map pm) κ=κ; rw [Vp])
  have DQ:∀ (h1':Heap) (κ:Heap->R), G5 h h1' [lp, cz, pm, zb] κ=κ (Af lp (Af cz (Af pm (Af zb h (A8 zb h1')) (A8 pm h1')) (A8 cz h1')) (A8 lp h1')) := fun h1' κ => by
    rw [I2 hlp rfl, I2 hcz rfl, I2 hpm rfl, I2 hzb rfl]; rfl
  have hback:∀ (h1':Heap), (∀ q∈[lp, cz, pm, zb], A8 q h1'=A8 q hs)->∀ q, A8 q (Af lp (Af cz (Af pm (Af zb h (A8 zb h1')) (A8 pm h1')) (A8 cz h1')) (A8 lp h1'))=A8 q h := by
    intro h1' hq q
    rw [hq zb (by simp), hq pm (by simp), hq cz (by simp), hq lp (by simp), s1, s2, s3, s4]
    by_cases q1:q=lp
    · subst q1; rw [A7, hlp]
    rw [A6 _ _ (Ne.symm q1)]
    by_cases q2:q=cz
    · subst q2; rw [A7, hcz]
    rw [A6 _ _ (Ne.symm q2)]
    by_cases q3:q=pm
    · subst q3; rw [A7, hpm]
    rw [A6 _ _ (Ne.symm q3)]
    by_cases q4:q=zb
    · subst q4; rw [A7, hzb]
    rw [A6 _ _ (Ne.symm q4)]
  have hmx:∀ κ:K4->R, MH M n κ=κ M := fun κ => by
    unfold MH
    rw [show Nat.ble M.toN n.toN=false from Au (by omega)]; rfl
  by_cases h0:its=[]
  · subst h0
    obtain rfl:L=[] := List.eq_nil_of_length_eq_zero hll
    refine ⟨M, _, fun _ => ?_, fun h => absurd rfl h, by simp at hM; omega, by simp at hM ⊢; omega, fun q _ => hback hs (fun _ _ => rfl) q, fun q _ => hback hs (fun _ _ => rfl) q⟩
    rw [e0, e1]
    show GM n (.nil .sl) hs (.nil .sl) hs (D7 n hs hs [lp, cz, pm, zb] (MH M n fun m => G5 h hs [lp, cz, pm, zb] fun hf => Q8 n (.nil .sl) hs hf m))=_
    show D7 n hs hs [lp, cz, pm, zb] (MH M n fun m => G5 h hs [lp, cz, pm, zb] fun hf => Q8 n (.nil .sl) hs hf m)=_
    rw [J4 _ _ (fun p hp => hA p hp hs fun _ _ => rfl), hmx, DQ]; rfl
  · have hL0:L≠[] := fun e => h0 (List.eq_nil_of_length_eq_zero (by rw [←hll, e]; rfl))
    generalize hh1:Af n hs (some (.c (.l (AE L)) false none))=h1'
    have e2:Xp hs n M its.length (AE L) = .rv (.sl n 0 L.length L.length false 2) h1' M := by
      cases hl:L with
      | nil => exact absurd hl hL0
      | cons x tl =>
        show AV n hs (some (.c (.l (AE (x::tl))) false none)) (fun hf => .rv (.sl n 0 its.length its.length false 2) hf M)=_
        rw [Cx, ←hl, hh1, hll]
    have hold:∀ q∈[lp, cz, pm, zb], A8 q h1'=A8 q hs := fun q hq => by
      rw [←hh1]
      refine A6 _ _ fun e => ?_
      subst e
      simp only [List.mem_cons, List.not_mem_nil, or_false] at hq
      rcases hq with rfl | rfl | rfl | rfl <;> omega
    have hnew:A8 n h1'=some (.c (.l (AE L)) false none) := by rw [←hh1, A7]
    have hno:FK n n=false := by
      cases hl:FK n n with
      | false => rfl
      | true => have := Bj.1 hl; omega
    refine ⟨M.up, Af M (Af lp (Af cz (Af pm (Af zb h (A8 zb h1')) (A8 pm h1')) (A8 cz h1')) (A8 lp h1')) (some (.c (.l (AE L)) false none)), fun h => absurd h h0, fun _ => ⟨M, by omega, by omega, ?_, A7 _ _ _⟩, by omega, by omega, fun q hq => ?_, fun q hq => ?_⟩
    · rw [e0, e1, e2]
      show br (FK n n) (AN (.sl n 0 L.length L.length false 2) (.sl n 0 L.length L.length false 2) _) (br (FK n n) (.fail "") (br (FK n n) (.fail "") (AN (.sl n 0 L.length L.length false 2) (.sl n 0 L.length L.length false 2) (AT n h1' fun a => AT n h1' fun b => Dr n (Iq n a) (Iq n b) (D7 n h1' h1' [lp, cz, pm, zb] (MH M n fun m => G5 h h1' [lp, cz, pm, zb] fun hf => Q8 n (.sl n 0 L.length L.length false 2) h1' hf m))))))=_
      rw [hno, Ag, Ag, Ag, RY, AB, AB, hnew]
      show Dr n (some (.c (.l (AE L)) false none)) (some (.c (.l (AE L)) false none)) _=_
      rw [JS (Oz n L) (MV L _), J4 _ _ (fun p hp => hA p hp h1' hold), hmx, DQ]
      show br (FK n n) _ (AT n h1' fun o => @Option.rec Ob (fun _ => R) (.fail "") (fun ob => AV M _ (some ob) fun hf => M.nx fun m' => .rv (.sl M 0 L.length L.length false 2) hf m') (Iq n o))=_
      rw [hno, Ag, AB, hnew]
      show AV M _ (some (.c (.l (AE L)) false none)) (fun hf => M.nx fun m' => .rv (.sl M 0 L.length L.length false 2) hf m')=_
      rw [Cx, K4.nx_up (by omega)]
    · rw [FT (by omega)]; exact hback h1' hold q
    · rw [C3 (by omega)]; exact hback h1' hold q
end Go.Ev

namespace Go.Ev
set_option linter.unusedVariables false
theorem Jm {t m c:Nat} {x:Itm}:Itm.isB t m c x=true ↔ t=x.t∧m=x.m∧c=x.c := by unfold Itm.isB; exact decide_eq_true_iff
theorem Qo.symm {x y:Itm} (h:Qo x y):Qo y x := fun e => h ⟨e.1.symm, e.2.1.symm, e.2.2.symm⟩
theorem T6 {t m c:Nat} {x y:Itm} (h:Qo x y) (hx:Itm.isB t m c x=true):Itm.isB t m c y=false := by
  obtain ⟨a, b, d⟩ := Jm.1 hx
  cases hy:Itm.isB t m c y with
  | false => rfl
  | true =>
    obtain ⟨a', b', d'⟩ := Jm.1 hy
    exact absurd ⟨a.symm.trans a', b.symm.trans b', d.symm.trans d'⟩ h
theorem Oe {t m c:Nat}:∀ {l:List Itm}, (∀ y∈l, Itm.isB t m c y=false)->l.filter (fun x => !Itm.isB t m c x)=l := fun h => List.filter_eq_self.2 fun y hy => by rw [h y hy]; rfl
theorem FS {t m c:Nat}:∀ {its:List Itm}, its.Pairwise Qo->Dc t m c its=its.filter fun x => !Itm.isB t m c x
  | [], _ => rfl
  | x::l, h => by
    obtain ⟨h1, h2⟩ := List.pairwise_cons.1 h
    rw [Dc, List.filter_cons]
    cases hx:Itm.isB t m c x with
    | true =>
      rw [Oe fun y hy => T6 (h1 y hy) hx]; rfl
    | false => rw [FS h2]; rfl
theorem Oq {v t m c:Nat}:∀ {its:List Itm}, its.Pairwise Qo->(GA v t m c its).Perm (its.filter (fun x => !Itm.isB t m c x)++[⟨v, t, m, c⟩])
  | [], _ => List.Perm.refl _
  | x::l, h => by
    obtain ⟨h1, h2⟩ := List.pairwise_cons.1 h
    rw [GA, List.filter_cons]
    cases hx:Itm.isB t m c x with
    | true =>
      rw [Oe fun y hy => T6 (h1 y hy) hx]
      exact (List.perm_append_singleton _ l).symm
    | false => exact (Oq h2).cons x
/-- Keys as they stand in the map, and by their use. -/
structure RS (its L:List Itm) (n:Nat):Prop where
  perm:L.Perm its
  srt:L.Pairwise fun a b => a.u<b.u
  unl:L.Pairwise Qo
  bnd:∀ x∈L, TS x∧1≤x.u∧x.u≤n
theorem RS.unl' {its L:List Itm} {n:Nat} (H:RS its L n):its.Pairwise Qo := H.perm.pairwise H.unl fun h => h.symm
theorem RS.bnd' {its L:List Itm} {n:Nat} (H:RS its L n):∀ x∈its, TS x := fun x hx => (H.bnd x (H.perm.mem_iff.2 hx)).1
theorem RS.nil:RS [] [] 0 := ⟨List.Perm.refl _, List.Pairwise.nil, List.Pairwise.nil, fun x h => by cases h⟩
theorem RS.drop {its L:List Itm} {n t m c:Nat} (H:RS its L n):RS (Dc t m c its) (Dc t m c L) n := by
  rw [FS H.unl', FS H.unl]
  exact ⟨H.perm.filter _, H.srt.sublist List.filter_sublist, H.unl.sublist List.filter_sublist, fun x hx => H.bnd x (List.mem_filter.1 hx).1⟩
theorem RS.use {its L:List Itm} {n t m c:Nat} (H:RS its L n) (ht:t<4294967296) (hc:c<256 ^ m) (hn:n+1<4611686018427387904):RS (GA (n+1) t m c its) (Dc t m c L++[⟨n+1, t, m, c⟩]) (n+1) := by
  rw [FS H.unl]
  refine ⟨((H.perm.filter _).append_right _).trans (Oq H.unl').symm, List.pairwise_append.2 ⟨H.srt.sublist List.filter_sublist, by simp, fun a ha b hb => ?_⟩, List.pairwise_append.2 ⟨H.unl.sublist List.filter_sublist, by simp, fun a ha b hb => ?_⟩, fun x hx => ?_⟩
  · have := (H.bnd a (List.mem_filter.1 ha).1).2.2
    rw [List.mem_singleton.1 hb]; show a.u<n+1; omega
  · have h2 := (List.mem_filter.1 ha).2
    rw [List.mem_singleton.1 hb]
    intro e
    have:Itm.isB t m c a=true := Jm.2 ⟨e.1.symm, e.2.1.symm, e.2.2.symm⟩
    rw [this] at h2; cases h2
  · rcases List.mem_append.1 hx with hx | hx
    · have := H.bnd x (List.mem_filter.1 hx).1
      exact ⟨this.1, this.2.1, by omega⟩
    · rw [List.mem_singleton.1 hx]
      exact ⟨⟨ht, hc, hn⟩, by show 1≤n+1; omega, Nat.le_refl _⟩
theorem Tg {t m c:Nat}:∀ {l:List Itm}, (∀ y∈l, Itm.isB t m c y=false)->Jf t m c l=0
  | [], _ => rfl
  | x::l, h => by
    rw [Jf, h x (List.mem_cons_self ..)]
    exact Tg fun y hy => h y (List.mem_cons_of_mem _ hy)
theorem Qq {t m c:Nat}:∀ {l:List Itm}, (∀ y∈l, 1≤y.u)->(∃ y∈l, Itm.isB t m c y=true)->1≤Jf t m c l
  | [], _, h => by obtain ⟨y, hy, _⟩ := h; cases hy
  | x::l, h, h2 => by
    rw [Jf]
    cases hx:Itm.isB t m c x with
    | true => exact h x (List.mem_cons_self ..)
    | false =>
      refine Qq (fun y hy => h y (List.mem_cons_of_mem _ hy)) ?_
      obtain ⟨y, hy, hy2⟩ := h2
      rcases List.mem_cons.1 hy with rfl | hy
      · rw [hx] at hy2; cases hy2
      · exact ⟨y, hy, hy2⟩
theorem To {t m c b:Nat} (hb:0<b):∀ {l:List Itm}, (∀ y∈l, y.u<b)->Jf t m c l<b
  | [], _ => hb
  | x::l, h => by
    rw [Jf]
    cases Itm.isB t m c x with
    | true => exact h x (List.mem_cons_self ..)
    | false => exact To hb fun y hy => h y (List.mem_cons_of_mem _ hy)
theorem Pi {t m c:Nat}:∀ {l:List Itm}, (∀ y∈l, Itm.isB t m c y=false)->Dc t m c l=l
  | [], _ => rfl
  | x::l, h => by
    rw [Dc, h x (List.mem_cons_self ..)]
    show x::Dc t m c l=_
    rw [Pi fun y hy => h y (List.mem_cons_of_mem _ hy)]
theorem Tn {t m c:Nat}:∀ {l:List Itm} {i:Nat} (hi:i<l.length), (∀ j (hj:j<i), Itm.isB t m c (l[j]'(by omega))=false)->Itm.isB t m c l[i]=true->Dc t m c l=l.take i++l.drop (i+1)
  | [], i, hi, _, _ => by cases hi
  | x::l, 0, hi, _, h => by
    rw [Dc, show Itm.isB t m c x=true from h]; rfl
  | x::l, i+1, hi, h1, h2 => by
    rw [Dc, show Itm.isB t m c x=false from h1 0 (by omega)]
    show x::Dc t m c l=_
    rw [Tn (l := l) (i := i) (by simpa using hi) (fun j hj => by simpa using h1 (j+1) (by omega)) (by simpa using h2)]; rfl
theorem IM:∀ (L:List Itm) (i:Nat), (AE L).drop (i*2)=AE (L.drop i)
  | [], i => by simp [AE]
  | x::l, 0 => rfl
  | x::l, i+1 => by
    rw [show (i+1)*2=i*2+2 by omega]
    show (AE l).drop (i*2)=_
    rw [IM l i]; rfl
theorem LF:∀ (L:List Itm) (i:Nat), (AE L).take (i*2)=AE (L.take i)
  | [], i => by simp [AE]
  | x::l, 0 => rfl
  | x::l, i+1 => by
    rw [show (i+1)*2=i*2+2 by omega]
    show V.int .u32 x.t::V.str x.m x.c::(AE l).take (i*2)=_
    rw [LF l i]; rfl
theorem M5 (A C:List Itm):AE (A++C)=AE A++AE C := by simp [AE]
theorem TF {z eb k m:Nat} {p n:K4} {h:Heap} {a b:List V} {s:Bool} {pr:Option K4} (h2:A8 p h=some (.c (.l a) s pr)) (h3:k*z≤a.length) (hm:0<m) (hs:(4*(k+m)+4096)*eb≤281474976710656) (hn:n.toN<65000) (κ:KV) :
    Bz z eb (.sl p 0 k k true z) m (.l b) h n κ=κ (.sl n 0 (k+m) (k+m) false z) (Af n h (some (.c (.l (a.take (k*z)++b)) false none))) n.up := by
  show br (Nat.beq z z) (br (Nat.beq m 0) (κ (.sl p 0 k k true z) h n) (Ac (Nat.add k m) fun need => br (Nat.ble need k) (Ac (Nat.add 0 (Nat.mul k z)) fun j => Dt h p j (.l b) fun h' => κ (.sl p 0 need k true z) h' n)
    (br (Nat.ble (Nat.mul (Nat.add (Nat.mul 4 need) 4096) eb) 281474976710656)
      (GD p h fun cs sup prev => Ac (Nat.mul k z) fun l => AJ cs 0 l fun x => QT x (.l b) fun y =>
        DR h n (.c y false none) fun h' n' => κ (.sl n 0 need need false z) h' n') (.fail "")))) (.fail "")=_
  have e4:Nat.ble (Nat.add k m) k=false := Au (by show k<k+m; omega)
  rw [Nat.beq_refl, Ab, D8, decide_eq_false (by omega), Ag, Aa, e4, Ag, show Nat.ble (Nat.mul (Nat.add (Nat.mul 4 (Nat.add k m)) 4096) eb) 281474976710656=true from A9.2 hs, Ab, DC, IH h2, Aa, show Nat.mul k z=k*z from rfl, JJ (by omega), List.drop_zero, WJ, El (by omega)]
  rfl
theorem Ws {z eb k:Nat} {p n:K4} {h:Heap} {y:Cs} {ex:Bool} (κ:KV):Bz z eb (.sl p 0 k k ex z) 0 y h n κ=κ (.sl p 0 k k ex z) h n := by
  show br (Nat.beq z z) (br (Nat.beq 0 0) (κ (.sl p 0 k k ex z) h n) _) (.fail "")=_
  rw [Nat.beq_refl]; rfl
/-- x[:i:i]. -/
theorem Abp {z:Nat} {p:K4} {o len cap i:Nat} {ex:Bool} (hi:i≤cap) (h2:i<9223372036854775808) (hz:z<4294967296 := by decide) (κ:V->R):H9 (z+4294967296) (.sl p o len cap ex z) (some (.int .i64 i)) (some (.int .i64 i)) κ=κ (.sl p o i i true z) := by
  show br (Nat.ble 4294967296 (z+4294967296)) (Z1 (Nat.sub (z+4294967296) 4294967296) (.sl p o len cap ex z) (some (.int .i64 i)) (some (.int .i64 i)) κ) _=_
  rw [show Nat.ble 4294967296 (z+4294967296)=true from A9.2 (by omega), Ab, show Nat.sub (z+4294967296) 4294967296=z from Nat.add_sub_cancel _ _]
  show br (Nat.ble (Nat.succ i) 9223372036854775808) (br (Nat.ble (Nat.succ i) 9223372036854775808) (br (Nat.beq z z) (br (Nat.ble i i) (br (Nat.ble i cap) (κ (.sl p o i i true z)) _) _) _) _) _=_
  rw [show Nat.ble (Nat.succ i) 9223372036854775808=true from A9.2 h2, Ab, Ab, Nat.beq_refl, Ab, show Nat.ble i i=true from A9.2 (Nat.le_refl _), Ab, A9.2 hi, Ab]
/-- The keys by their use, as a slice. -/
def KL (A:K4->Prop) (n:K4) (h:Heap) (v:V) (L:List Itm):Prop := (v = .nil .sl∧L=[]) ∨ ∃ p a s pr ex, v = .sl p 0 L.length L.length ex 2∧A8 p h=some (.c (.l a) s pr)∧a.take (L.length*2)=AE L∧L.length*2≤a.length∧A p∧p.toN<n.toN∧(ex=true∨(s=false∧a.length=L.length*2∧(pr=none ∨ ∃ q, pr=some q∧A q∧q.toN<n.toN)))
theorem KL.mono {A:K4->Prop} {n n':K4} {h h':Heap} {v:V} {L:List Itm} (H:KL A n h v L) (hn:n.toN≤n'.toN) (e:∀ q:K4, q.toN<n.toN->A q->A8 q h'=A8 q h):KL A n' h' v L := by
  rcases H with H | ⟨p, a, s, pr, ex, h1, h2, h3, h4, h5, h6, h7⟩
  · exact .inl H
  · refine .inr ⟨p, a, s, pr, ex, h1, (e p h6 h5).trans h2, h3, h4, h5, by omega, ?_⟩
    rcases h7 with h7 | ⟨h7, h8, h9⟩
    · exact .inl h7
    · refine .inr ⟨h7, h8, ?_⟩
      rcases h9 with h9 | ⟨q, h9, h10, h11⟩
      · exact .inl h9
      · exact .inr ⟨q, h9, h10, by omega⟩
theorem KL.len {A:K4->Prop} {n:K4} {h:Heap} {v:V} {L:List Itm} (H:KL A n h v L) (hl:L.length<9223372036854775808) (κ:V->R):Bx v κ=κ (.int .i64 L.length) := by
  rcases H with ⟨rfl, rfl⟩ | ⟨p, a, s, pr, ex, rfl, _⟩
  · rfl
  · exact CL hl κ
/-- An element's place. -/
theorem KL.ix {A:K4->Prop} {n:K4} {h:Heap} {v:V} {L:List Itm} (H:KL A n h v L) {i:Nat} (hi:i<L.length) (h2:i<9223372036854775808) :
    ∃ p o, (∀ κ:V->R, BP 2 v (.int .i64 i) κ=κ (.ptr p o))∧(∀ κ:V->R, ZD (A8 p h) o κ=κ (.int .u32 (L[i]'hi).t))∧(∀ κ:V->R, ZD (A8 p h) (o+1) κ=κ (.str (L[i]'hi).m (L[i]'hi).c)) := by
  rcases H with ⟨rfl, rfl⟩ | ⟨p, a, s, pr, ex, rfl, h1, h3, h4, _⟩
  · cases hi
  · have hg := Ii (l := L) (i := i) (List.getElem?_eq_getElem hi)
    have ht:∀ j, j<L.length*2->a[j]? = (AE L)[j]? := fun j hj => by rw [←h3, List.getElem?_take, if_pos hj]
    have hn:∀ (j:Nat) (x:V) (κ:V->R), a[j]? = some x->BK j a κ=κ x := fun j x κ hx => Fh hx
    refine ⟨p, 0+i*2, fun κ => VF 2 (k := .i64) h2 hi κ, fun κ => ?_, fun κ => ?_⟩
    · rw [h1, Qk]
      refine hn _ _ κ ?_
      rw [ht _ (by omega), show 0+i*2=2*i by omega]; exact hg.1
    · rw [h1, Qk]
      refine hn _ _ κ ?_
      rw [ht _ (by omega), show 0+i*2+1=2*i+1 by omega]; exact hg.2
theorem BU (L:List Itm):(AE L).length=L.length*2 := by rw [D9]; omega
/-- One is cut out: append(x[:i:i], x[i+1:]...). -/
theorem KL.cut {A:K4->Prop} {n:K4} {h:Heap} {v:V} {L:List Itm} (H:KL A n h v L) (hA:∀ q:K4, n.toN≤q.toN->A q) {i:Nat} (hi:i<L.length) (h2:L.length<1000000) (hn:n.toN<65000) :
    ∃ v1 v2 v' h' n', (∀ κ:V->R, H9 (2+4294967296) v (some (.int .i64 i)) (some (.int .i64 i)) κ=κ v1)∧(∀ κ:V->R, H9 2 v (some (.int .i64 (i+1))) none κ=κ v2)∧(∀ κ:KV, Dk 2 24 v1 v2 h n κ=κ v' h' n')∧KL A n' h' v' (L.take i++L.drop (i+1))∧n.toN≤n'.toN∧n'.toN≤n.toN+1∧(∀ q:K4, ¬ A q->A8 q h'=A8 q h)∧(∀ q:K4, q.toN<n.toN->A8 q h'=A8 q h)∧(B7 h n->B7 h' n') := by
  have u1 := K4.up_toN (p := n) (by omega)
  rcases H with ⟨rfl, rfl⟩ | ⟨p, a, s, pr, ex, rfl, h1, h3, h4, h5, h6, _⟩
  · cases hi
  · have htake:a.take (i*2)=AE (L.take i) := by
      rw [←LF, ←h3, List.take_take, Nat.min_eq_left (by omega)]
    have hlt:(L.take i).length=i := by rw [List.length_take]; omega
    have hsl := fun κ => ZO (z := 2) (p := p) (o := 0) (len := L.length) (cap := L.length) (a := i+1) (ex := ex) (by omega) (Nat.le_refl _) (by omega) κ
    have hrng:∀ κ:Cs->R, Pn (A8 p h) (0+(i+1)*2) ((L.length - (i+1))*2) κ=κ (.l (AE (L.drop (i+1)))) := fun κ => by
      rw [h1, Aa7 (by omega)]
      congr 2
      rw [Nat.zero_add, ←IM, ←h3, List.drop_take]
      congr 1; omega
    by_cases hm:i+1=L.length
    · refine ⟨_, _, .sl p 0 i i true 2, h, n, fun κ => Abp (z := 2) (by omega) (by omega) (by decide) κ, hsl, fun κ => ?_, ?_, Nat.le_refl _, by omega, fun q _ => rfl, fun q _ => rfl, fun h => h⟩
      · rw [Sn, hrng, show L.length - (i+1)=0 by omega, Ws]
      · refine .inr ⟨p, a, s, pr, true, ?_, h1, ?_, ?_, h5, h6, .inl rfl⟩
        · rw [List.drop_eq_nil_of_le (by omega), List.append_nil, hlt]
        · rw [List.drop_eq_nil_of_le (by omega), List.append_nil, hlt, htake]
        · rw [List.drop_eq_nil_of_le (by omega), List.append_nil, hlt]; omega
    · have hld:(L.drop (i+1)).length=L.length - (i+1) := List.length_drop
      have hla:(L.take i++L.drop (i+1)).length=i+(L.length - (i+1)) := by rw [List.length_append, hlt, hld]
      refine ⟨_, _, .sl n 0 (i+(L.length - (i+1))) (i+(L.length - (i+1))) false 2, Af n h (some (.c (.l (a.take (i*2)++AE (L.drop (i+1)))) false none)), n.up, fun κ => Abp (z := 2) (by omega) (by omega) (by decide) κ, hsl, fun κ => ?_, ?_, ?_, ?_, fun q hq => A6 _ _ fun e => hq (e ▸ hA n (Nat.le_refl _)), fun q hq => FT hq _ _, fun hf q hq => (C3 (by omega) _ _).trans (hf q (by omega))⟩
      · rw [Sn, hrng]
        exact TF (eb := 24) h1 (by omega) (by omega) (by omega) hn κ
      · refine .inr ⟨n, AE (L.take i++L.drop (i+1)), false, none, false, by rw [hla], ?_, ?_, ?_, hA n (Nat.le_refl _), by omega, .inr ⟨rfl, ?_, .inl rfl⟩⟩
        · rw [A7, htake, M5]
        · rw [←BU , List.take_length]
        · rw [BU]; omega
        · rw [BU]
      · omega
      · omega
theorem KL.snoc {A:K4->Prop} {n:K4} {h:Heap} {v:V} {L:List Itm} (H:KL A n h v L) (hA:∀ q:K4, n.toN≤q.toN->A q) (x:Itm) (h2:L.length<1000000) (hn:n.toN<65000) :
    ∃ v' h', (∀ κ:KV, Bz 2 24 v 1 (.l [.int .u32 x.t, .str x.m x.c]) h n κ=κ v' h' n.up)∧KL A n.up h' v' (L++[x])∧(∀ q:K4, ¬ A q->A8 q h'=A8 q h)∧(B7 h n->B7 h' n.up) := by
  have u1 := K4.up_toN (p := n) (by omega)
  have hAn:A n := hA n (Nat.le_refl _)
  have hne:∀ q:K4, ¬ A q->q≠n := fun q hq e => hq (e ▸ hAn)
  have hl1:(L++[x]).length=L.length+1 := by rw [List.length_append]; rfl
  have hf1:AE (L++[x])=AE L++[.int .u32 x.t, .str x.m x.c] := by rw [M5]; rfl
  rcases H with ⟨rfl, rfl⟩ | ⟨p, a, s, pr, ex, rfl, h1, h3, h4, h5, h6, h7⟩
  · exact ⟨_, _, fun κ => OW (by omega) (by omega) (by omega) _ _ _, .inr ⟨n, _, _, _, false, rfl, A7 _ _ _, rfl, Nat.le_refl _, hAn, by omega, .inr ⟨rfl, rfl, .inl rfl⟩⟩, fun q hq => A6 _ _ (hne q hq).symm, fun hf q hq => (C3 (by omega) _ _).trans (hf q (by omega))⟩
  · cases ex with
    | true =>
      refine ⟨_, _, fun κ => TF (eb := 24) h1 h4 (by omega) (by omega) hn κ, .inr ⟨n, _, _, _, false, by rw [hl1], A7 _ _ _, ?_, ?_, hAn, by omega, .inr ⟨rfl, ?_, .inl rfl⟩⟩, fun q hq => A6 _ _ (hne q hq).symm, fun hf q hq => (C3 (by omega) _ _).trans (hf q (by omega))⟩
      · rw [h3, ←hf1, ←BU, List.take_length]
      · rw [h3, ←hf1, BU]; omega
      · rw [h3, ←hf1, BU]
    | false =>
      obtain ⟨rfl, h8, h9⟩:s=false∧a.length=L.length*2∧(pr=none ∨ ∃ q, pr=some q∧A q∧q.toN<n.toN) := by
        rcases h7 with h7 | h7
        · cases h7
        · exact h7
      have ha:a=AE L := by rw [←h3, ←h8, List.take_length]
      subst ha
      refine ⟨_, _, fun κ => (NB (eb := 24) (ex := false) (m := 1) h1 h8 (by omega) (by omega) hn κ).trans (Ag _ _), .inr ⟨n, _, _, _, false, by rw [hl1], A7 _ _ _, ?_, ?_, hAn, by omega, .inr ⟨rfl, ?_, .inr ⟨p, rfl, h5, by omega⟩⟩⟩, fun q hq => ?_, fun hf q hq => ?_⟩
      · rw [←hf1, ←BU, List.take_length]
      · rw [←hf1, BU]; omega
      · rw [←hf1, BU]
      · rw [A6 _ _ (hne q hq).symm, A6 _ _ (show p≠q from fun e => hq (e ▸ h5))]
        rcases h9 with rfl | ⟨r, rfl, h10, h11⟩
        · rfl
        · exact A6 _ _ (show r≠q from fun e => hq (e ▸ h10))
      · rw [C3 (by omega), C3 (by omega)]
        rcases h9 with rfl | ⟨r, rfl, h10, h11⟩
        · exact hf q (by omega)
        · exact (A6 _ _ (K4.ne_of_lt (by omega))).trans (hf q (by omega))
end Go.Ev

namespace Go.Ev
open Go.RowKit Go.ChangeShapes
set_option linter.unusedVariables false
set_option linter.unusedSimpArgs false
structure OpR where
  drop:Bool
  t:Nat
  b:List UInt8
def Mr (o:OpR):List RV := [.b o.drop, .i .u32 o.t, .s o.b.length (Al o.b)]
def BH:List OpR->List RV
  | [] => []
  | r::rs => Mr r++BH rs
def Qt (o:OpR):Prop := o.t<4294967296∧o.b.length<9223372036854775808
theorem LH {cs:List Value} {i:Nat} {v:Value} (h:(cs.drop i).take 1=[v]):cs[i]? = some v := by
  have := congrArg (fun l => l[0]?) h
  simpa [List.getElem?_take, List.getElem?_drop] using this
theorem Wv {z:Int} (h:(Lit.int .u32 z).wf=true):∃ r, r<4294967296∧z=Go.Ev.dec .u32 r := by
  have hb:0≤z∧z<4294967296 := by
    simp [Lit.wf, IntKind.min, IntKind.max, IntKind.signed, IntKind.bits] at h
    omega
  refine ⟨z.toNat, by omega, ?_⟩
  rw [Ai (show z.toNat<Hk .u32 by show _<4294967296; omega)]; omega
theorem Ya {P:Program} {H:Type} {enc:TypeId×Value->H} {w:World} {base:Nat} {spare:Nat->Bool} {held:Bool} {fuel:Nat} {e:TypeId} {cs:List Value} {x:DataW H×List MemPlace} {f0 f1 k0 k1:Field}
    (he:P.underlying e=some (.struct #[f0, f1])) (o0:f0.offset=0) (o1:f1.offset=1) (t0:P.underlying f0.type=some .bool) (hk:P.underlying f1.type=some (.struct #[k0, k1])) (p0:k0.offset=0) (p1:k1.offset=1)
    (t1:P.underlying k0.type=some (.int .u32)) (t2:P.underlying k1.type=some .string)
    (c0:P.cellsOf f0.type=1) (c1:P.cellsOf f1.type=2) (c2:P.cellsOf k0.type=1) (c3:P.cellsOf k1.type=1) (h:DataW.trod enc P w base spare held fuel e cs=some x) :
    ∃ r:OpR, Qt r ∧ ∀ (j:Nat) (v:RV), (Mr r)[j]? = some v->∃ y, cs[j]? = some y ∧ ∀ ρ, Hj ρ v y := by
  obtain ⟨xs, n, _, _, hl, hlen, hf⟩ := DataW.trod_struct he h
  have hx:∀ i, i<2->∃ y, xs[i]? = some y := fun i hi => ⟨xs[i]'(by rw [hlen]; exact hi), List.getElem?_eq_getElem _⟩
  obtain ⟨y0, g0'⟩ := hx 0 (by omega)
  obtain ⟨y1, g1'⟩ := hx 1 (by omega)
  obtain ⟨z0, e0, _⟩ := DataW.trod_bool t0 ((hf 0 f0 rfl).trans g0')
  obtain ⟨ys, n2, _, _, hl2, hlen2, hf2⟩ := DataW.trod_struct hk ((hf 1 f1 rfl).trans g1')
  have hy:∀ i, i<2->∃ y, ys[i]? = some y := fun i hi => ⟨ys[i]'(by rw [hlen2]; exact hi), List.getElem?_eq_getElem _⟩
  obtain ⟨u0, g2'⟩ := hy 0 (by omega)
  obtain ⟨u1, g3'⟩ := hy 1 (by omega)
  obtain ⟨z1, e1, _, wz1⟩ := DataW.trod_int t1 ((hf2 0 k0 rfl).trans g2')
  obtain ⟨s, e2, _, ws⟩ := DataW.trod_string t2 ((hf2 1 k1 rfl).trans g3')
  rw [o0, c0] at e0
  rw [o1, c1, p0, c2] at e1
  rw [o1, c1, p1, c3] at e2
  have e1':(cs.drop 1).take 1=[.int .u32 z1] := by
    rw [←e1, List.drop_zero, List.take_take]; rfl
  have e2':(cs.drop 2).take 1=[.string s] := by
    rw [←e2, List.drop_take, List.drop_drop, List.take_take]; rfl
  obtain ⟨r1, h1, d1⟩ := Wv wz1
  have hmx:maxLen=9223372036854775807 := rfl
  have hsz:s.data.toList.length=s.size := by rw [Array.length_toList]; rfl
  refine ⟨⟨z0, r1, s.data.toList⟩, ⟨h1, by show s.data.toList.length<_; omega⟩, fun j v hv => ?_⟩
  rcases j with _ | _ | _ | j
  · obtain rfl:RV.b z0=v := Option.some.inj hv
    exact ⟨_, LH e0, fun ρ => rfl⟩
  · obtain rfl:RV.i .u32 r1=v := Option.some.inj hv
    exact ⟨_, LH e1', fun ρ => ⟨h1, by rw [d1]⟩⟩
  · obtain rfl:RV.s s.data.toList.length (Al s.data.toList)=v := Option.some.inj hv
    exact ⟨_, LH e2', fun ρ => ⟨s, rfl, hsz.symm, rfl⟩⟩
  · cases hv
theorem N3:∀ a b:List OpR, BH (a++b)=BH a++BH b
  | [], b => rfl
  | r::a, b => by rw [List.cons_append, BH, BH, N3 a b, List.append_assoc]
theorem Ff:∀ rs:List OpR, (BH rs).length=rs.length*3
  | [] => rfl
  | r::rs => by rw [BH, List.length_append, Ff rs, List.length_cons]; show 3+_=_; omega
theorem Wf {P:Program} {H:Type} {enc:TypeId×Value->H} {w:World} {base:Nat} {spare:Nat->Bool} {held:Bool} {fuel:Nat} {t e:TypeId} {cs:List Value} {x:DataW H×List MemPlace} {f0 f1 k0 k1:Field}
    (ht:P.underlying t=some (.slice e)) (ce:P.cellsOf e=3)
    (he:P.underlying e=some (.struct #[f0, f1])) (o0:f0.offset=0) (o1:f1.offset=1) (t0:P.underlying f0.type=some .bool) (hk:P.underlying f1.type=some (.struct #[k0, k1])) (p0:k0.offset=0) (p1:k1.offset=1)
    (t1:P.underlying k0.type=some (.int .u32)) (t2:P.underlying k1.type=some .string)
    (c0:P.cellsOf f0.type=1) (c1:P.cellsOf f1.type=2) (c2:P.cellsOf k0.type=1) (c3:P.cellsOf k1.type=1) (h:DataW.trod enc P w base spare held fuel t cs=some x) :
    cs=[.slice none 0 0] ∨ ∃ a len cap, cs=[.slice (some a) len cap]∧len≤maxLen ∧ ∃ (rs:List OpR) (bl:List Nat), rs.length=len∧(∀ r∈rs, Qt r) ∧
      ∀ ρ φ, M8 ρ w bl->Aj ρ φ (.oth (.rx (BH rs) len 3)) (.slice (some a) len cap) := by
  rcases Go.Deep.open_slice ht h with ⟨hc, _⟩ | ⟨a, len, cap, m, n, D, Pl, hc, _, hl, hm, hmm, _, hx⟩
  · exact .inl hc
  · have hlm:len≤m := by rw [hmm]; split <;> omega
    have all:∀ k, k≤len->∃ rs:List OpR, rs.length=k∧(∀ r∈rs, Qt r) ∧ ∀ (j:Nat) (r:RV), (BH rs)[j]? = some r->∃ v, w.cell? (a.add j)=some v ∧ ∀ ρ, Hj ρ r v := by
      intro k
      induction k with
      | zero => exact fun _ => ⟨[], rfl, (fun o ho => by cases ho), fun j r h => by simp [BH] at h⟩
      | succ k ih =>
        intro hk'
        obtain ⟨rs, h1, h2, h3⟩ := ih (by omega)
        obtain ⟨cs', g1, g2⟩ := hx k (by omega)
        rw [ce] at g1
        obtain ⟨_, g4, g5⟩ := World.cells?_some g1
        obtain ⟨r, hr, g6⟩ := Ya he o0 o1 t0 hk p0 p1 t1 t2 c0 c1 c2 c3 g2
        refine ⟨rs++[r], by rw [List.length_append, h1]; rfl, fun o ho => ?_, fun j v hj => ?_⟩
        · rcases List.mem_append.1 ho with ho | ho
          · exact h2 o ho
          · rw [List.mem_singleton.1 ho]; exact hr
        · rw [N3] at hj
          by_cases hjn:j<k*3
          · rw [List.getElem?_append_left (by rw [Ff]; omega)] at hj
            exact h3 j v hj
          · rw [List.getElem?_append_right (by rw [Ff]; omega), Ff, h1, show BH [r]=Mr r from by rw [BH, BH, List.append_nil]] at hj
            obtain ⟨y, k1', k2'⟩ := g6 _ v hj
            have hj6:j - k*3<3 := by
              rcases Nat.lt_or_ge (j - k*3) 3 with h | h
              · exact h
              · rw [List.getElem?_eq_none (show (Mr r).length≤_ from h)] at hj; cases hj
            have := g5 (j - k*3) hj6
            rw [Go.Addr.add_add, show k*3+(j - k*3)=j by omega, k1'] at this
            exact ⟨y, this, k2'⟩
    obtain ⟨rs, h1, h2, h3⟩ := all len (Nat.le_refl _)
    refine .inr ⟨a, len, cap, hc, by omega, rs, [a.block], h1, h2, fun ρ φ hg => ?_⟩
    simp only [Aj]
    refine ⟨a, cap, rfl, hl, by rw [Ff, h1], fun hpos => ?_⟩
    obtain ⟨v0, hv0, _⟩ := h3 0 ((BH rs)[0]'(by rw [Ff]; omega)) (List.getElem?_eq_getElem _)
    obtain ⟨b, o, c, e', fr, ea, hw, hco⟩ := Rr (show w.cell? a=_ from hv0)
    refine ⟨b, o, c, e', fr, ea, hg b (by rw [ea]; simp) c e' fr hw, fun j r hj => ?_⟩
    obtain ⟨v, hv, hr⟩ := h3 j r hj
    rw [ea, Go.WideShapes.add_plain] at hv
    exact ⟨v, by simpa [World.cell?, hw] using hv, hr ρ⟩
end Go.Ev
