/- AN EVALUATOR OF THE MODEL OF Go, PROVED SOUND, PART 3: what it says of a call holds in every world, on every tape. Conditions: none of its own; each theorem bears its premises. -/
import Derived.Test.YtdgefeadbcbglaaDoorMEv2
import Derived.Below
import Derived.ChangeSame
import Derived.Laws.AppendOwn
import Derived.Lib.Bytealg
import Derived.LoopN
import Derived.Orders
noncomputable section
set_option linter.unusedSimpArgs false
set_option linter.unusedVariables false
namespace Go.Ev
set_option linter.unusedVariables false
section
variable {P:Program} {ρ:Env} {B N:Nat} {o:Oper} {cf:CF} {t:Regs} {h:Heap} {n:K4}
theorem OG {c:Bool} {x y:R} (_:(br c x y).good):(c=true∧br c x y=x)∨(c=false∧br c x y=y) := by cases c <;> simp [br]
/-- A block more that no object tells of. -/
theorem Gam.push {φ:AT} {w:World} (g:Gam ρ B h n φ w) (O:Obj):Gam ρ B h n φ (w.alloc O) where
  base := by have := g.base; rw [World.size_alloc]; omega
  glob := fun b c e fr hb => ⟨(g.glob b c e fr hb).1, by rw [Go.RowKit.Below.heap_alloc w O b (by have := (g.glob b c e fr hb).1; have := g.base; omega)]; exact (g.glob b c e fr hb).2⟩
  dom := g.dom
  blk := fun q b s t hx => by have := g.blk q b s t hx; rw [World.size_alloc]; omega
  obj := fun q o' b s t hq hx => Cp (Go.RowKit.Below.heap_alloc w O b (g.blk q b s t hx).2) (g.obj q o' b s t hq hx)
  sep := g.sep
  sup := g.sup
theorem Fr.push {φ:AT} {w:World} (O:Obj):Fr h h φ φ n n w (w.alloc O) where
  ext := AT.le_refl φ
  new := fun _ _ h => .inl h
  nn := Nat.le_refl _
  os := rfl
  tape := rfl
  out := rfl
  size := by rw [World.size_alloc]; omega
  old := fun b hb _ => Go.RowKit.Below.heap_alloc w O b hb
  fresh := fun _ _ _ _ h => .inl h
  dm := fun _ _ h => h
/-- A new object that tells of a block that is there. -/
theorem Gam.add {φ:AT} {w:World} (g:Gam ρ B h n φ w) {n':K4} (hn:n'.toN=n.toN+1) {ob:Ob} {b s tot:Nat} (hb:B≤b∧b<w.heap.size)
    (hok:GE ρ (EG φ n (b, s, tot)) w ob b s tot) (hsep:∀ q o' s' t', A8 q h=some o'->φ q=some (b, s', t')->Cf ob=some q)
    (hsup:∀ q, Cf ob=some q->φ q≠none ∧ ∀ o', A8 q h=some o'->Jh o'=true)
    (hold:∀ q o' s' t', A8 q h=some o'->φ q=some (b, s', t')->Cf o'=none) :
    Gam ρ B (Af n h (some ob)) n' (EG φ n (b, s, tot)) w where
  base := g.base
  glob := g.glob
  dom := fun q x hx => by
    rcases AI hx with ⟨rfl, _⟩ | ⟨_, hx⟩
    · omega
    · have := g.dom q x hx; omega
  blk := fun q b1 s1 t1 hx => by
    rcases AI hx with ⟨rfl, e⟩ | ⟨_, hx⟩
    · simp only [Prod.mk.injEq] at e; rw [←e.1]; exact hb
    · exact g.blk q b1 s1 t1 hx
  obj := fun q o' b1 s1 t1 hq hx => by
    rcases AI hx with ⟨rfl, e⟩ | ⟨hne, hx⟩
    · rw [A6] at hq
      simp only [Prod.mk.injEq] at e
      obtain ⟨rfl, rfl, rfl⟩ := e
      cases hq
      exact hok
    · rw [A7 _ _ hne] at hq
      exact E6 (D5 g.at_n) (g.obj q o' b1 s1 t1 hq hx)
  sep := fun q r o1 o2 b1 s1 t1 s2 t2 hne hq hr hx hy => by
    rcases AI hx with ⟨rfl, e⟩ | ⟨hpq, hx⟩
    · rcases AI hy with ⟨rfl, _⟩ | ⟨hpr, hy⟩
      · exact absurd rfl hne
      · simp only [Prod.mk.injEq] at e
        rw [A6] at hq; cases hq
        rw [A7 _ _ hpr] at hr
        exact .inl (hsep r o2 s2 t2 hr (by rw [hy, e.1]))
    · rcases AI hy with ⟨rfl, e⟩ | ⟨hpr, hy⟩
      · simp only [Prod.mk.injEq] at e
        rw [A6] at hr; cases hr
        rw [A7 _ _ hpq] at hq
        exact .inr (hsep q o1 s1 t1 hq (by rw [hx, e.1]))
      · rw [A7 _ _ hpq] at hq
        rw [A7 _ _ hpr] at hr
        exact g.sep q r o1 o2 b1 s1 t1 s2 t2 hne hq hr hx hy
  sup := fun q r o1 o2 b1 s1 t1 s2 t2 hq hpr hr hx hy => by
    rcases AI hx with ⟨rfl, e⟩ | ⟨hnq, hx⟩
    · rw [A6] at hq; cases hq
      obtain ⟨h1, h2⟩ := hsup r hpr
      have hne:n≠r := fun e => h1 (e ▸ g.at_n)
      rw [A7 _ _ hne] at hr
      exact h2 o2 hr
    · rw [A7 _ _ hnq] at hq
      rcases AI hy with ⟨rfl, e⟩ | ⟨hnr, hy⟩
      · simp only [Prod.mk.injEq] at e
        have := hold q o1 s1 t1 hq (by rw [hx, e.1])
        rw [this] at hpr; cases hpr
      · rw [A7 _ _ hnr] at hr
        exact g.sup q r o1 o2 b1 s1 t1 s2 t2 hq hpr hr hx hy
theorem Fr.add {φ:AT} {w:World} {n':K4} (hφ:φ n=none) (hn:n'.toN=n.toN+1) (ob:Option Ob) {b s tot:Nat}
    (hfr:w.heap.size≤b ∨ ∃ q s' tot', φ q=some (b, s', tot')∧A8 q h≠none):Fr h (Af n h ob) φ (EG φ n (b, s, tot)) n n' w w where
  ext := D5 hφ
  new := fun q x hx => by
    rcases AI hx with ⟨rfl, _⟩ | ⟨_, hx⟩
    · exact .inr ⟨Nat.le_refl _, by omega⟩
    · exact .inl hx
  nn := by omega
  os := rfl
  tape := rfl
  out := rfl
  size := Nat.le_refl _
  old := fun b hb _ => rfl
  fresh := fun q b1 s1 t1 hx => by
    rcases AI hx with ⟨rfl, e⟩ | ⟨_, hx⟩
    · simp only [Prod.mk.injEq] at e
      rw [←e.1]
      exact .inr hfr
    · exact .inl hx
  dm := fun q hq hn => by
    have hne:n≠q := fun e => hq (e ▸ hφ)
    rw [A7 _ _ hne]; exact hn
/-- Two steps of worlds where the first one's last block is new: what was written into it was new too. -/
theorem Fr.push_add {φ:AT} {w:World} {n':K4} (hφ:φ n=none) (hn:n'.toN=n.toN+1) (ob:Option Ob) (O:Obj) {tot:Nat} :
    Fr h (Af n h ob) φ (EG φ n (w.heap.size, 0, tot)) n n' w (w.alloc O) :=
  Fr.alloc hφ (by omega) (Nat.le_refl _) (by omega) ob O tot
structure AppSrc (P:Program) (w:World) (ats:Array TypeId) (e:TypeId) (it:TypeInfo) (zv:Value) (x:Value) (m:Nat) (vs:List Value):Prop where
  room:∀ (ty:TypeId) (base:Option Addr) (L C:Nat), L+m≤C->∀ w', (match base with | some a => (storeCells (a.add (L*it.size)) vs).run P w | none => .ok () w) = .ok () w' →
    (Builtin.append_ ats ty #[.slice base L C, x]).run P w = .ok (.slice base (L+m) C) w'
  grow:∀ (ty:TypeId) (base:Option Addr) (L C:Nat), C<L+m->L+m≤9223372036854775807->Builtin.nextslicecap (L+m) C*it.bytes≤281474976710656->∀ old:Array Value, (Builtin.firstCells it.size L (.slice base L C)).run P w.drew = .ok old w.drew →
      (Builtin.append_ ats ty #[.slice base L C, x]).run P w = .ok (.slice (some ⟨w.heap.size, 0, none⟩) (L+m) (grownCap w (L+m) C e))
        (w.drew.alloc (.cells (old++vs.toArray++Builtin.zeroCells zv.cells (grownCap w (L+m) C e - (L+m))) e))
theorem Nn {w:World} {t u e:TypeId} {it:TypeInfo} {zv:Value} {d:TypeDesc} {x:Value} {m:Nat} {vs:List Value} (ht:P.underlying t=some (.slice e)) (hi:P.info? e=some it) (hz:it.zero=some zv) (hb:0<it.bytes)
    (hu:P.underlying u=some d) (hd:∀ k, d ≠ .int k) (hlen:∀ w, (Builtin.lenOf x).run P w = .ok m w)
    (hv:∀ w', w'.heap=w.heap->(Builtin.firstCells it.size m x).run P w' = .ok vs.toArray w'):AppSrc P w #[t, u] e it zv x m vs := by
  have hz0:(match d with | .int _ => true | _ => false)=false := by
    cases d with
    | int k => exact absurd rfl (hd k)
    | _ => rfl
  refine ⟨fun ty base L C hle w' hw => ?_, fun ty base L C hlt h63 hn old ho => ?_⟩
  · cases base with
    | none => simp at hw; subst hw; simp [Builtin.append_, run_underlying ht, run_underlying hu, sizeOf, typeInfo, hz0, hlen, hv w rfl, hle, hi]
    | some a => simp at hw; simp [Builtin.append_, run_underlying ht, run_underlying hu, sizeOf, typeInfo, hz0, hlen, hv w rfl, hle, hi, hw]
  · have hn':¬ (281474976710656<Builtin.nextslicecap (L+m) C*it.bytes) := by omega
    have hle:¬ (L+m≤C) := by omega
    have hby:it.bytes≠0 := by omega
    simp [Builtin.append_, run_underlying ht, run_underlying hu, sizeOf, typeInfo, hz0, hlen, hle, hn', hby, hi, Question.forced, ho, hv w.drew rfl, zeroValue, hz, newRow, grownCap]
theorem NU {w:World} {t u e:TypeId} {it:TypeInfo} {zv:Value} {ku k:IntKind} {m:Nat} (ht:P.underlying t=some (.slice e)) (hi:P.info? e=some it) (hz:it.zero=some zv) (hb:0<it.bytes) (h0:0<it.size)
    (hu:P.underlying u=some (.int ku)) (hm:m*it.bytes≤281474976710656):AppSrc P w #[t, u] e it zv (.int k m) m (Builtin.zeroCells zv.cells m).toList := by
  have hm1:m≤281474976710656 := Nat.le_trans (Nat.le_mul_of_pos_right m hb) hm
  have hwrap:IntKind.i64.wrap (m:Int)=(m:Int) := by
    have hH:m<Hk .i64 := by show m<9223372036854775808; omega
    rw [Fn .i64 m (Nat.lt_of_lt_of_le hH (GP _)), Ao hH]
  have h1:¬ ((m:Int)<0) := by omega
  have h2:¬ ((281474976710656:Int)<(m:Int)*(it.bytes:Int)) := by
    rw [←Int.natCast_mul]; have := Int.ofNat_le.2 hm; omega
  have hz0:m*it.size=0->m=0 := fun h => by rcases Nat.mul_eq_zero.1 h with h | h <;> omega
  have hzc:Builtin.zeroCells zv.cells 0 = #[] := Array.eq_empty_of_size_eq_zero (by simp [Builtin.zeroCells])
  refine ⟨fun ty base L C hle w' hw => ?_, fun ty base L C hlt h63 hn old ho => ?_⟩
  · cases base with
    | none =>
      simp at hw; subst hw
      simp [Builtin.append_, run_underlying ht, run_underlying hu, sizeOf, typeInfo, asInt, asIntOf, hwrap, h1, h2, hle, hi, zeroValue, hz]
    | some a =>
      simp at hw
      simp [Builtin.append_, run_underlying ht, run_underlying hu, sizeOf, typeInfo, asInt, asIntOf, hwrap, h1, h2, hle, hi, zeroValue, hz, hw]
      intro hm0; have := hz0 hm0; subst this; rw [hzc] at hw; simp at hw; simp [hw]
  · have hn':¬ (281474976710656<Builtin.nextslicecap (L+m) C*it.bytes) := by omega
    have hle:¬ (L+m≤C) := by omega
    have h63':¬ ((9223372036854775807:Int)<((L:Int)+(m:Int))) := by omega
    simp [Builtin.append_, run_underlying ht, run_underlying hu, sizeOf, typeInfo, asInt, asIntOf, hwrap, h1, h2, hle, hn', h63', hi, Question.forced, ho, zeroValue, hz, newRow, grownCap]
    intro hm0; have := hz0 hm0; subst this; rw [hzc]; simp
theorem R8 {φ:AT} {w:World} (g:Gam ρ B h n φ w) {p:K4} {cs y:Cs} {sup:Bool} {prev:Option K4} {b s tot off m:Nat} (hp:A8 p h=some (.c cs sup prev)) (hφ:φ p=some (b, s, tot)) (hyl:y.len=m) (hya:∀ i, i<m->y.at i=cs.at (off+i)) :
    ∃ vs:List Value, vs.length=m∧(∀ v∈vs, v.oneCell'=true)∧EV ρ φ y (fun i => vs[i]?) ∧ ∀ w':World, w'.heap=w.heap->(loadCells ⟨b, s+off, none⟩ m).run P w' = .ok vs.toArray w' := by
  obtain ⟨c, e, fr, k1, k2, k3, k4, k5⟩ := g.obj p _ b s tot hp hφ
  have hr := He k5 hyl hya
  obtain ⟨vs, q1, q2, q3, q4⟩ := IC hr
  refine ⟨vs, by rw [q1, hyl], q3, fun i v hv => ?_, fun w' hw' => ?_⟩
  · have hi := Cs.lt_of_at hv
    obtain ⟨x, hx, hrx, ho⟩ := hr i v hv
    have := q2 i _ (List.getElem?_eq_getElem (by rw [q1]; exact hi))
    have hx':c[s+(off+i)]? = some x := hx
    rw [hx'] at this
    cases this
    exact ⟨_, List.getElem?_eq_getElem (by rw [q1]; exact hi), hrx, ho⟩
  · have hrun := Dr (P := P) (w := w') (off := s+off) vs (by rw [hw']; exact k1) (fun j v hj => by have := q2 j v hj; rwa [←Nat.add_assoc] at this)
    rwa [q1, hyl] at hrun
/-- The cells of what is appended. -/
structure Src (P:Program) (ρ:Env) (φ:AT) (w:World) (ats:Array TypeId) (e:TypeId) (it:TypeInfo) (zv:Value) (x:Value) (m:Nat) (y:Cs):Prop where
  ex:∃ vs:List Value, vs.length=m*it.size∧y.len=m*it.size∧(∀ v∈vs, v.oneCell'=true)∧EV ρ φ y (fun i => vs[i]?)∧AppSrc P w ats e it zv x m vs
theorem La {φ:AT} {z:Cs} {c:Array Value} {xs:List Value} (hc:∀ i:Nat, i<xs.length->c[i]? = xs[i]?) (hl:z.len=xs.length) (hk:EV ρ φ z fun i => xs[i]?):EV ρ φ z fun i => c[i]? := fun i v hv => by
  have hi := Cs.lt_of_at hv
  obtain ⟨x, hx, hr⟩ := hk i v hv
  exact ⟨x, (hc i (by omega)).trans hx, hr⟩
theorem On {φ:AT} {a y z:Cs} {xs ys:List Value} (hz:QH a y z) (ha:a.len=xs.length) (hy:y.len=ys.length) (h1:EV ρ φ a fun i => xs[i]?) (h2:EV ρ φ y fun i => ys[i]?):EV ρ φ z fun i => (xs++ys)[i]? := fun i v hv => by
  by_cases hi:i<a.len
  · rw [hz.2.1 i hi] at hv
    obtain ⟨x, hx, hr⟩ := h1 i v hv
    exact ⟨x, by show (xs++ys)[i]? = some x; rw [List.getElem?_append_left (by omega)]; exact hx, hr⟩
  · obtain ⟨j, rfl⟩:∃ j, i=a.len+j := ⟨i - a.len, by omega⟩
    rw [hz.2.2 j] at hv
    obtain ⟨x, hx, hr⟩ := h2 j v hv
    exact ⟨x, by show (xs++ys)[a.len+j]? = some x; rw [List.getElem?_append_right (by omega), ha, Nat.add_sub_cancel_left]; exact hx, hr⟩
/-- One step of an append, from the values. -/
def Vg (P:Program) (ρ:Env) (B:Nat) (ats:Array TypeId) (e:TypeId) (it:TypeInfo) (zv:Value) (u:V) (m:Nat) (y:Cs) (h:Heap) (n:K4) (v:V) (h1:Heap) (n1:K4):Prop :=
  ∀ (φ:AT) (w:World) (S x:Value) (ty:TypeId), Gam ρ B h n φ w->As ρ φ u S->Src P ρ φ w ats e it zv x m y →
    ∃ φ' X w', (Builtin.append_ ats ty #[S, x]).run P w = .ok X w'∧Fr h h1 φ φ' n n1 w w'∧Gam ρ B h1 n1 φ' w'∧As ρ φ' v X
theorem Ae3 {need C eb:Nat} (h:(4*need+4096)*eb≤281474976710656) (hC:C<need):Builtin.nextslicecap need C*eb≤281474976710656 := by
  have h1 := nextslicecap_le hC
  exact Nat.le_trans (Nat.mul_le_mul_right eb (show Builtin.nextslicecap need C≤4*need+4096 by omega)) h
theorem X8 {need eb:Nat} (h:(4*need+4096)*eb≤281474976710656) (hb:0<eb):need≤9223372036854775807 := by
  have:4*need+4096≤281474976710656 := Nat.le_trans (Nat.le_mul_of_pos_right _ hb) h
  omega
/-- A block of one's own for what was appended. -/
theorem Ky {φ:AT} {w:World} {ats:Array TypeId} {e:TypeId} {it:TypeInfo} {zv:Value} {x:Value} {m L C:Nat} {z:Cs} {vs olds:List Value} {base:Option Addr} {ty:TypeId} (hz:zv.cells.size=it.size)
    (ha:AppSrc P w ats e it zv x m vs) (hC:C<L+m) (hb:0<it.bytes) (hfit:(4*(L+m)+4096)*it.bytes≤281474976710656) (ho:(Builtin.firstCells it.size L (.slice base L C)).run P w.drew = .ok olds.toArray w.drew)
    (hvl:vs.length=m*it.size) (hol:olds.length=L*it.size) (hzl:z.len=olds.length+vs.length) (hcs:EV ρ φ z fun i => (olds++vs)[i]?) :
    ∃ (cap:Nat) (c:Array Value), L+m≤cap∧c.size=cap*it.size∧z.len≤c.size∧EV ρ φ z (fun i => c[i]?) ∧
      (Builtin.append_ ats ty #[.slice base L C, x]).run P w = .ok (.slice (some ⟨w.heap.size, 0, none⟩) (L+m) cap) (w.drew.alloc (.cells c e)) := by
  have hge := grownCap_ge w (L+m) C e
  have hrun := ha.grow ty base L C hC (X8 hfit hb) (Ae3 hfit hC) olds.toArray ho
  have hmul:L*it.size+(m*it.size+(grownCap w (L+m) C e - (L+m))*it.size)=grownCap w (L+m) C e*it.size := by
    rw [←Nat.add_mul, ←Nat.add_mul]; congr 1; omega
  refine ⟨grownCap w (L+m) C e, _, hge, ?_, ?_, ?_, hrun⟩
  · simp only [Array.size_append, List.size_toArray, size_zeroCells, hol, hvl, hz]; omega
  · simp only [Array.size_append, List.size_toArray, hzl]; omega
  · refine La (xs := olds++vs) (fun i hi => ?_) (by rw [hzl]; simp) hcs
    rw [Array.getElem?_append_left (by simpa using hi)]
    simp [Array.getElem?_append, List.getElem?_append]
theorem GH {φ:AT} {p:K4} {b tot m cap esz:Nat} (h1:m≤cap) (h2:cap*esz≤tot):As ρ (EG φ p (b, 0, tot)) (.sl p 0 m m false esz) (.slice (some ⟨b, 0, none⟩) m cap) := by
  simp only [As]
  exact ⟨b, 0, tot, 0, cap, Cj _ _ _, rfl, Nat.le_refl _, h1, (fun h => by cases h), fun _ => ⟨rfl, by omega⟩⟩
theorem IU {ats:Array TypeId} {e:TypeId} {it:TypeInfo} {zv:Value} {u:V} {m:Nat} {y:Cs} {κ:KV} (hzs:zv.cells.size=it.size) (hs0:0<it.size) (hb0:0<it.bytes)
    (hg:(Ep it.size it.bytes u m y h n κ).good):∃ v h1 n1, Ep it.size it.bytes u m y h n κ=κ v h1 n1∧Vg P ρ B ats e it zv u m y h n v h1 n1 := by
  rcases Dl (show R.good (DM u _ _) from hg) with ⟨hu, e1⟩ | ⟨p, off, len, cap, ex, esz, hu, e1⟩
  · have e1:Ep it.size it.bytes u m y h n κ=_ := e1
    rw [e1] at hg
    subst hu
    rcases OG hg with ⟨h2, e2⟩ | ⟨h2, e2⟩
    · have h2 := Nat.eq_of_beq_eq_true h2
      subst h2
      refine ⟨.nil .sl, h, n, e1.trans e2, fun φ w S x ty g hS hx => ?_⟩
      obtain ⟨vs, hvl, hyl, hv1, hcs, ha⟩ := hx.ex
      have hS := Cd hS
      subst hS
      exact ⟨φ, .slice none 0 0, w, ha.room ty none 0 0 (by omega) w rfl, Fr.refl h φ n w, g, by simp only [As, Ci]⟩
    · rw [e2] at hg
      obtain ⟨h3, e3⟩ := Ae hg
      rw [e3] at hg
      have h3:(4*m+4096)*it.bytes≤281474976710656 := Aa.1 h3
      obtain ⟨n', hn, e4⟩ := Bp hg
      refine ⟨_, _, _, e1.trans (e2.trans (e3.trans e4)), fun φ w S x ty g hS hx => ?_⟩
      obtain ⟨vs, hvl, hyl, hv1, hcs, ha⟩ := hx.ex
      have hS := Cd hS
      subst hS
      have hm:0<m := Nat.pos_of_ne_zero fun h0 => by subst h0; simp at h2
      obtain ⟨rc, c, k1, k2, k3, k4, k5⟩ := Ky (P := P) (base := none) (L := 0) (C := 0) (olds := []) (z := y) (ty := ty) hzs ha (by omega) hb0 (by rw [Nat.zero_add]; exact h3) (by simp [Builtin.firstCells]) hvl (by simp) (by rw [hyl, hvl]; simp) (by simpa using hcs)
      obtain ⟨g1, g2⟩ := CM g.drew hn (e := e) (fr := (0, 0)) (c := c) (cs := y) k3 (JE _) k4
      rw [Nat.zero_add] at k1 k5
      exact ⟨_, _, _, k5, Fr.trans Fr.drew g2, g1, GH k1 (by omega)⟩
  · have e1:Ep it.size it.bytes u m y h n κ=_ := e1
    rw [e1] at hg
    obtain ⟨h2, e2⟩ := Ae hg
    have h2 := Nat.eq_of_beq_eq_true h2
    subst h2
    rw [e2] at hg
    rcases OG hg with ⟨h3, e3⟩ | ⟨h3, e3⟩
    · have h3 := Nat.eq_of_beq_eq_true h3
      subst h3
      refine ⟨u, h, n, e1.trans (e2.trans e3), fun φ w S x ty g hS hx => ?_⟩
      obtain ⟨vs, hvl, hyl, hv1, hcs, ha⟩ := hx.ex
      have hS' := hS
      rw [hu] at hS'
      obtain ⟨b, s, tot, q, cap', hφ, gx, c1, c2, c3, c4⟩ := CW hS'
      have hvs:vs=[] := List.eq_nil_of_length_eq_zero (by simpa using hvl)
      subst hvs
      subst gx
      exact ⟨φ, _, w, ha.room ty _ len cap' (by omega) w rfl, Fr.refl h φ n w, g, hS⟩
    · have hm:0<m := Nat.pos_of_ne_zero fun h0 => by subst h0; simp at h3
      rw [e3, A9] at hg
      rcases OG hg with ⟨h4, e4⟩ | ⟨h4, e4⟩
      · have h4:len+m≤cap := Aa.1 h4
        rw [e4, A9] at hg
        obtain ⟨cs, prev, z, hp, hz, e5⟩ := Fq hg
        refine ⟨_, _, n, e1.trans (e2.trans (e3.trans ((A9 _ _).trans (e4.trans ((A9 _ _).trans e5))))), fun φ w S x ty g hS hx => ?_⟩
        obtain ⟨vs, hvl, hyl, hv1, hcs, ha⟩ := hx.ex
        rw [hu] at hS
        obtain ⟨b, s, tot, q, cap', hφ, gx, c1, c2, c3, c4⟩ := CW hS
        subst gx
        obtain ⟨c5, c6⟩ := c4 (by omega)
        obtain ⟨w', q1, q2, q3⟩ := FF (P := P) g hp hφ hz (vs := vs) (by rw [hvl, hyl]) (fun i v hi => let ⟨x, hx, hr, _⟩ := hcs i v hi; ⟨x, hx, hr⟩) hv1
        refine ⟨φ, _, w', ha.room ty (some ⟨b, q, none⟩) len cap' (by omega) w' ?_, q3, q2, ?_⟩
        · show (storeCells ((⟨b, q, none⟩:Addr).add (len*it.size)) vs).run P w=_
          rw [Ch, c5, ←q1]; congr 2; simp only [Nat.add_eq, Nat.mul_eq, Nat.add_assoc]
        · simp only [As]
          exact ⟨b, s, tot, q, cap', hφ, rfl, h4, c2, c3, c4⟩
      · rw [e4] at hg
        obtain ⟨h5, e5⟩ := Ae hg
        rw [e5] at hg
        have h5:(4*(len+m)+4096)*it.bytes≤281474976710656 := Aa.1 h5
        have h4:¬ len+m≤cap := fun h' => by rw [show Nat.ble (Nat.add len m) cap=true from Aa.2 h'] at h4; cases h4
        obtain ⟨cs, sup, prev, hp, e6⟩ := Dd hg
        rw [e6, A9] at hg
        obtain ⟨hle, a, hal, haa, e7⟩ := CL hg
        rw [e7] at hg
        obtain ⟨z, hz, e8⟩ := Vd a y (fun z => br ex
              (Di h n (.c z false none) fun h' n' => κ (.sl n 0 (Nat.add len m) (Nat.add len m) false it.size) h' n')
              (br sup (.fail "")
                (Ab (Nat.add off (Nat.mul len it.size)) fun j => Bh cs 0 j fun old => Jm prev h fun h => FY p h (some (.c old true none)) fun h =>
                  Di h n (.c z false (some p)) fun h' n' => κ (.sl n 0 (Nat.add len m) (Nat.add len m) false it.size) h' n')))
        have e8 := e8
        rw [e8] at hg
        have hal:a.len=len*it.size := hal
        have head := e1.trans (e2.trans (e3.trans ((A9 _ _).trans (e4.trans (e5.trans (e6.trans ((A9 _ _).trans (e7.trans e8))))))))
        -- what the old slice holds
        have oldv:∀ φ w, Gam ρ B h n φ w->∀ b s tot q cap', φ p=some (b, s, tot)->len≤cap'->(0<cap'->q=s+off∧q+cap'*it.size≤tot) →
            ∃ olds:List Value, olds.length=len*it.size∧EV ρ φ a (fun i => olds[i]?)∧(∀ v∈olds, v.oneCell'=true)∧(Builtin.firstCells it.size len (.slice (some ⟨b, q, none⟩) len cap')).run P w.drew = .ok olds.toArray w.drew := fun φ w g b s tot q cap' hφ hlc c4 => by
          obtain ⟨olds, o1, o2, o3, o4⟩ := R8 (P := P) g hp hφ hal (fun i hi => haa i hi)
          refine ⟨olds, o1, o3, o2, ?_⟩
          rcases Nat.eq_zero_or_pos cap' with h0 | h0
          · have hl0:len=0 := by omega
            subst hl0
            have:olds=[] := List.eq_nil_of_length_eq_zero (by simpa using o1)
            subst this
            simp [Builtin.firstCells]; rfl
          · rw [(c4 h0).1]
            exact o4 w.drew rfl
        cases ex with
        | true =>
          obtain ⟨n', hn, e9⟩ := Bp (show R.good (Di h n (.c z false none) fun h' n' => κ (.sl n 0 (Nat.add len m) (Nat.add len m) false it.size) h' n') from hg)
          refine ⟨_, _, _, head.trans e9, fun φ w S x ty g hS hx => ?_⟩
          obtain ⟨vs, hvl, hyl, hv1, hcs, ha⟩ := hx.ex
          rw [hu] at hS
          obtain ⟨b, s, tot, q, cap', hφ, gx, c1, c2, c3, c4⟩ := CW hS
          subst gx
          have hcap := c3 rfl
          obtain ⟨olds, o1, o2, o3, o4⟩ := oldv φ w g b s tot q cap' hφ (by omega) c4
          obtain ⟨rc, c, k1, k2, k3, k4, k5⟩ := Ky (P := P) (z := z) (ty := ty) hzs ha (by omega) hb0 h5 o4 hvl o1 (by rw [hz.1, hal, hyl, o1, hvl]) (On hz (by rw [hal, o1]) (by rw [hyl, hvl]) o2 hcs)
          obtain ⟨g1, g2⟩ := CM g.drew hn (e := e) (fr := (0, 0)) (c := c) (cs := z) k3 (JE _) k4
          exact ⟨_, _, _, k5, Fr.trans Fr.drew g2, g1, GH k1 (by omega)⟩
        | false =>
          have eF:∀ (A C:R), br false A C=C := fun _ _ => rfl
          rw [eF] at hg
          obtain ⟨h9, e9⟩ := Gd hg
          subst h9
          rw [eF, A9] at hg
          obtain ⟨hle2, old, hol, hoa, e10⟩ := CL hg
          rw [e10, Gq, B6] at hg
          obtain ⟨n', hn, e11⟩ := Bp hg
          refine ⟨_, _, _, head.trans (Eq.trans (eF _ _) (Eq.trans (eF _ _) ((A9 _ _).trans (e10.trans ((Gq _ _ _).trans ((B6 _ _ _ _).trans e11)))))), fun φ w S x ty g hS hx => ?_⟩
          obtain ⟨vs, hvl, hyl, hv1, hcs, ha⟩ := hx.ex
          rw [hu] at hS
          obtain ⟨b, s, tot, q, cap', hφ, gx, c1, c2, c3, c4⟩ := CW hS
          subst gx
          obtain ⟨olds, o1, o2, o3, o4⟩ := oldv φ w g b s tot q cap' hφ (by omega) c4
          obtain ⟨c, et, fr, k1, k2, k3, k4, k5⟩ := g.obj p _ b s tot hp hφ
          have hcz := On hz (by rw [hal, o1]) (by rw [hyl, hvl]) o2 hcs
          have hb := g.blk p b s tot hφ
          have hol:old.len=off+len*it.size := hol
          -- what the new object has beside it
          have hsep:∀ q' o' s' t', A8 q' (Af p (EL prev h) (some (.c old true none)))=some o'->φ q'=some (b, s', t')->Cf (.c z false (some p))=some q' := fun q' o' s' t' hq' hφ' => by
            by_cases hqp:p=q'
            · subst hqp; rfl
            · rw [A7 _ _ hqp] at hq'
              obtain ⟨r1, r2⟩ := Dk hq'
              rcases g.sep p q' _ o' b s tot s' t' hqp hp r2 hφ hφ' with h' | h'
              · exact absurd h' r1
              · have := g.sup q' p o' _ b s' t' s tot r2 h' hp hφ' hφ
                simp [Jh] at this
          have hsup:∀ q', Cf (.c z false (some p))=some q'->φ q'≠none ∧ ∀ o', A8 q' (Af p (EL prev h) (some (.c old true none)))=some o'->Jh o'=true := fun q' hq' => by
            simp only [Cf, Option.some.injEq] at hq'; subst hq'
            exact ⟨by rw [hφ]; simp, fun o' ho' => by rw [A6] at ho'; cases ho'; rfl⟩
          have hzl:z.len=len*it.size+m*it.size := by rw [hz.1, hal, hyl]
          by_cases hin:len+m≤cap'
          · obtain ⟨c5, c6⟩ := c4 (by omega)
            have hmul:len*it.size+m*it.size≤cap'*it.size := by rw [←Nat.add_mul]; exact Nat.mul_le_mul_right _ hin
            obtain ⟨c', q1, q2, q3, q4⟩ := H3 (P := P) vs w b (q+len*it.size) 0 c et fr k1 (by rw [hvl, k2]; omega) (by rw [k2]; exact k4) hv1
            have g2 := g.write (o := .c cs false prev) (o' := .c old true none) (O := .cells c' et fr) hp hφ rfl rfl ⟨c', et, fr, DI hb.2, by rw [q1, k2], by rw [hol]; omega, k4, fun i v hi => by
              have hlt := Cs.lt_of_at hi
              rw [hoa i (by have := hlt; rw [hol] at this; exact this), Nat.zero_add] at hi
              obtain ⟨X, hX, hr⟩ := k5 i v hi
              exact ⟨X, by show c'[s+i]? = some X; rw [q2 (s+i) (by rw [hol] at hlt; omega)]; exact hX, hr⟩⟩
            have g3 := g2.add hn (ob := .c z false (some p)) (b := b) (s := s+off) (tot := tot) (by rw [Ea]; exact hb) ⟨c', et, fr, DI hb.2, by rw [q1, k2], by rw [hzl]; omega, k4, G9 (D5 g.at_n) fun i v hi => by
              by_cases hia:i<a.len
              · rw [hz.2.1 i hia, haa i (by have := hia; rw [hal] at this; exact this)] at hi
                obtain ⟨X, hX, hr⟩ := k5 (off+i) v hi
                exact ⟨X, by show c'[s+off+i]? = some X; rw [Nat.add_assoc, q2 (s+(off+i)) (by rw [hal] at hia; omega)]; exact hX, hr⟩
              · obtain ⟨j, rfl⟩:∃ j, i=a.len+j := ⟨i - a.len, by omega⟩
                rw [hz.2.2 j] at hi
                obtain ⟨X, hX, hr⟩ := hcs j v hi
                refine ⟨X, ?_, hr⟩
                have := q3 j X hX
                show c'[s+off+(a.len+j)]? = some X
                rw [←this]; congr 1; rw [hal]; omega⟩ hsep hsup (fun q' o' s' t' hq' hφ' => by
              have := hsep q' o' s' t' hq' hφ'
              simp only [Cf, Option.some.injEq] at this; subst this
              rw [A6] at hq'; cases hq'; rfl)
            refine ⟨_, _, _, ha.room ty (some ⟨b, q, none⟩) len cap' hin _ (by show (storeCells ((⟨b, q, none⟩:Addr).add (len*it.size)) vs).run P w=_; rw [Ch]; exact q4),
              Fr.trans (Fr.write (o := .c cs false prev) hp hφ) (Fr.add g.at_n hn _ (.inr ⟨p, s, tot, hφ, by rw [A6]; simp⟩)), g3, ?_⟩
            simp only [As]
            exact ⟨b, s+off, tot, q, cap', Cj _ _ _, rfl, Nat.le_refl _, hin, (fun h => by cases h), fun _ => ⟨by omega, c6⟩⟩
          · obtain ⟨rc, c', r1, r2, r3, r4, r5⟩ := Ky (P := P) (z := z) (ty := ty) hzs ha (by omega) hb0 h5 o4 hvl o1 (by rw [hz.1, hal, hyl, o1, hvl]) hcz
            have g2 := g.write (o := .c cs false prev) (o' := .c old true none) (O := .cells c et fr) hp hφ rfl rfl ⟨c, et, fr, DI hb.2, k2, by rw [hol]; have := k3; omega, k4, fun i v hi => by
              have hlt := Cs.lt_of_at hi
              rw [hoa i (by have := hlt; rw [hol] at this; exact this), Nat.zero_add] at hi
              exact k5 i v hi⟩
            have f2 := Fr.write (o := .c cs false prev) (o' := some (.c old true none)) (n := n) (w := w) (O := .cells c et fr) hp hφ
            rw [Q3 k1] at g2 f2
            have g3 := (g2.drew.push (.cells c' e)).add hn (ob := .c z false (some p)) (b := w.heap.size) (s := 0) (tot := c'.size) (by rw [World.size_alloc]; have := g.base; exact ⟨this, Nat.lt_succ_self _⟩)
              ⟨c', e, (0, 0), Ik (w := w.drew), rfl, by omega, JE _, G9 (D5 g.at_n) fun i v hi => by rw [Nat.zero_add]; exact r4 i v hi⟩
              (fun q' o' s' t' _ hφ' => by have := (g.blk q' _ s' t' hφ').2; omega) hsup (fun q' o' s' t' _ hφ' => by have := (g.blk q' _ s' t' hφ').2; omega)
            exact ⟨_, _, _, r5, Fr.trans f2 (Fr.trans Fr.drew (Fr.push_add g.at_n hn _ _)), g3, GH r1 (by rw [r2]; exact Nat.le_refl _)⟩
theorem Rf (φ:AT) (s:ByteArray):EV ρ φ (.b s.size (Au s.data.toList)) (fun i => (s.data.toList.map fun b => Value.int .u8 b.toNat)[i]?) := fun i v hv => by
  have hi:i<s.size := Cs.lt_of_at hv
  rw [Cs.b_pos hi] at hv
  have hi':i<s.data.toList.length := by rw [C1]; exact hi
  rw [Ib _ _ hi'] at hv
  cases hv
  have hlt := s.data.toList[i].toNat_lt
  refine ⟨.int .u8 (s.data.toList[i].toNat:Nat), ?_, ?_, rfl⟩
  · show (s.data.toList.map fun b => Value.int .u8 b.toNat)[i]? = _
    rw [List.getElem?_map, List.getElem?_eq_getElem hi']; rfl
  · simp only [As]
    exact ⟨by simp [Mk]; exact hlt, by rw [Ao (by simp [Hk]; exact hlt)]⟩
/-- What the source's cells are, and how the model reads them. -/
def XE (P:Program) (ρ:Env) (B:Nat) (v:V) (h:Heap) (n:K4) (esz m:Nat) (y:Cs):Prop :=
  y.len=m*esz ∧ ∀ φ w X, Gam ρ B h n φ w->As ρ φ v X->∃ vs:List Value, vs.length=m*esz∧(∀ x∈vs, x.oneCell'=true)∧EV ρ φ y (fun i => vs[i]?)∧(∀ w, (Builtin.lenOf X).run P w = .ok m w) ∧
    ∀ (k:Nat) (w':World), k≤m->w'.heap=w.heap->(Builtin.firstCells esz k X).run P w' = .ok (vs.take (k*esz)).toArray w'
theorem Jd:∀ (m i:Nat), (Jk m i).length=m
  | 0, _ => rfl
  | m+1, i => congrArg (· + 1) (Jd m (i+1))
theorem OW:∀ {m i j:Nat}, j<m->(Jk m i)[j]? = some (.oth (.sy .i64 (i+j)))
  | 0, _, _, h => by omega
  | m+1, i, 0, _ => rfl
  | m+1, i, j+1, h => by
    have e:(Jk (m+1) i)[j+1]? = (Jk m (i+1))[j]? := rfl
    rw [e, OW (by omega), show i+1+j=i+(j+1) by omega]
theorem MF {esz:Nat} {v:V} {κ:Nat->Cs->R} (hg:(J4 esz v h κ).good):∃ m y, J4 esz v h κ=κ m y∧XE P ρ B v h n esz m y := by
  cases v with
  | sl p off len cap ex esz' =>
    obtain ⟨h1, e1⟩ := Ae (show R.good (br (Nat.beq esz' esz) _ _) from hg)
    have h1 := Nat.eq_of_beq_eq_true h1
    subst h1
    have e1:J4 esz' (.sl p off len cap ex esz') h κ=_ := e1
    rw [e1] at hg
    obtain ⟨cs, sup, prev, hp, e2⟩ := Dd hg
    rw [e2, A9] at hg
    obtain ⟨hle, y, hyl, hya, e3⟩ := CL hg
    have hyl:y.len=len*esz' := hyl
    refine ⟨len, y, e1.trans (e2.trans ((A9 _ _).trans e3)), hyl, fun φ w X g hX => ?_⟩
    obtain ⟨b, s, tot, q, cap', hφ, gx, c1, c2, c3, c4⟩ := CW hX
    subst gx
    obtain ⟨c, e, fr, k1, k2, k3, k4, k5⟩ := g.obj p _ b s tot hp hφ
    have hr := He k5 hyl (fun i hi => hya i hi)
    obtain ⟨vs, q1, q2, q3, q4⟩ := IC hr
    refine ⟨vs, by rw [q1, hyl], q3, fun i u hu => ?_, fun w => rfl, fun k w' hk hw' => ?_⟩
    · have hi := Cs.lt_of_at hu
      obtain ⟨x, hx, hrx, ho⟩ := hr i u hu
      have := q2 i _ (List.getElem?_eq_getElem (by rw [q1]; exact hi))
      have hx':c[s+(off+i)]? = some x := hx
      rw [hx'] at this
      cases this
      exact ⟨_, List.getElem?_eq_getElem (by rw [q1]; exact hi), hrx, ho⟩
    · show (loadCells ⟨b, q, none⟩ (k*esz')).run P w'=_
      have hlen:(vs.take (k*esz')).length=k*esz' := by rw [List.length_take, q1, hyl]; exact Nat.min_eq_left (Nat.mul_le_mul_right _ hk)
      rcases Nat.eq_zero_or_pos cap' with h0 | h0
      · have hk0:k=0 := by omega
        subst hk0
        simp; rfl
      · have hrun := Dr (P := P) (w := w') (off := s+off) (vs.take (k*esz')) (by rw [hw']; exact k1) (fun j v hj => by
          have hj':vs[j]? = some v := by
            rw [List.getElem?_take] at hj
            split at hj
            · exact hj
            · cases hj
          have := q2 j v hj'; rwa [←Nat.add_assoc] at this)
        rw [hlen] at hrun
        rw [(c4 h0).1]; exact hrun
  | str m c =>
    obtain ⟨h1, e1⟩ := Ae (show R.good (br (Nat.beq esz 1) _ _) from hg)
    have h1 := Nat.eq_of_beq_eq_true h1
    subst h1
    refine ⟨m, .b m c, e1, by simp [Cs.len], fun φ w X g hX => ?_⟩
    obtain ⟨s, gx, hs, hc⟩ := Cy hX
    subst gx hs hc
    refine ⟨s.data.toList.map fun b => Value.int .u8 b.toNat, by simp [C1], by simp [Value.oneCell'], Rf φ s, fun w => rfl, fun k w' hk _ => ?_⟩
    have:(s.extract 0 k).data.map (fun b:UInt8 => Value.int .u8 b.toNat)=((s.data.toList.map fun b => Value.int .u8 b.toNat).take (k*1)).toArray := by
      apply Array.ext'
      simp [ByteArray.data_extract, List.map_take]
    simp only [Builtin.firstCells, Sem.run_pure, this]
  | nil w =>
    cases w with
    | sl =>
      refine ⟨0, .l [], rfl, by simp [Cs.len], fun φ w X g hX => ?_⟩
      have := Cd hX
      subst this
      exact ⟨[], by simp, by simp, fun i v hv => by simp [Cs.at] at hv, fun w => rfl, fun k w' _ _ => by simp [Ci, Builtin.firstCells]⟩
    | _ => exact hg.elim
  | oth oo =>
    cases oo with
    | ro i l0 l1 z =>
      have hg':R.good (br (Nat.beq z esz) (br (Nat.beq l0 l1) (br (and (Nat.ble 1 i) (Nat.ble i 18446744073709551615)) (Ab (Nat.mul l0 esz) fun m => κ l0 (.l (Jk m i))) (.fail "")) (.fail "")) (.fail "")) := hg
      obtain ⟨h1, e1⟩ := Ae hg'
      rw [e1] at hg'
      obtain ⟨h2, e2⟩ := Ae hg'
      rw [e2] at hg'
      obtain ⟨h3, e3⟩ := Ae hg'
      have h1 := Nat.eq_of_beq_eq_true h1
      have h2 := Nat.eq_of_beq_eq_true h2
      rw [Bool.and_eq_true] at h3
      have h3' := Aa.1 h3.2
      have h3 := Aa.1 h3.1
      subst h1
      subst h2
      refine ⟨l0, .l (Jk (l0*z) i), e1.trans (e2.trans (e3.trans (A9 _ _))), Jd _ _, fun φ w X g hX => ?_⟩
      simp only [As] at hX
      obtain ⟨b, q, len, cap, c, e, fr, rfl, c1, c2, c3, c4, c5⟩ := hX
      obtain rfl:len=l0 := by omega
      have one:∀ j y, Lm ρ i j y->y.oneCell'=true := fun j y hy => by
        rcases hy with ⟨_, b, rfl⟩ | ⟨_, _, _, r, _, rfl⟩ | ⟨_, _, b, rfl, _⟩ | ⟨_, _, r, _, rfl, _⟩ | ⟨_, y0, rfl, _, _, _⟩ <;> rfl
      obtain ⟨vs, hl, A8⟩:∃ vs:List Value, vs.length=len*z ∧ ∀ j, j<len*z->vs[j]? = c[q+j]? := by
        refine ⟨(List.range (len*z)).map fun j => (c[q+j]?).getD undef, by simp, fun j hj => ?_⟩
        obtain ⟨y, y1, _⟩ := c5 j hj
        rw [List.getElem?_map, List.getElem?_range hj]
        simp [y1]
      refine ⟨vs, hl, fun x hx => ?_, fun j v hv => ?_, fun w => rfl, fun k w' hk hw' => ?_⟩
      · obtain ⟨j, hj, rfl⟩ := List.getElem_of_mem hx
        have hj':j<len*z := by rw [←hl]; exact hj
        obtain ⟨y, y1, y2⟩ := c5 j hj'
        have e5 := A8 j hj'
        rw [y1, List.getElem?_eq_getElem hj] at e5
        rw [Option.some.inj e5]
        exact one j y y2
      · have hj := Cs.lt_of_at hv
        have hj:j<len*z := by rw [←Jd (len*z) i]; exact hj
        have hv:(Jk (len*z) i)[j]? = some v := hv
        rw [OW hj] at hv
        cases hv
        obtain ⟨y, y1, y2⟩ := c5 j hj
        refine ⟨y, (A8 j hj).trans y1, ?_, one j y y2⟩
        rcases y2 with ⟨h, _⟩ | ⟨_, _, h5, r, h6, h7⟩ | ⟨h, _⟩ | ⟨h, _⟩ | ⟨h, _⟩
        · omega
        · simp only [As]; exact ⟨h5, r, h6, h7⟩
        · omega
        · omega
        · omega
      · show (loadCells ⟨b, q, none⟩ (k*z)).run P w'=_
        have hlen:(vs.take (k*z)).length=k*z := by rw [List.length_take, hl]; exact Nat.min_eq_left (Nat.mul_le_mul_right _ hk)
        have hrun := Dr (P := P) (w := w') (off := q) (vs.take (k*z)) (by rw [hw']; exact (g.glob b c e fr c4).2) (fun j v hj => by
          have hj':vs[j]? = some v := by
            rw [List.getElem?_take] at hj
            split at hj
            · exact hj
            · cases hj
          have hlt:j<len*z := by rw [←hl]; exact (List.getElem?_eq_some_iff.1 hj').1
          rw [←A8 j hlt]; exact hj')
        rw [hlen] at hrun
        exact hrun
    | rx l m z =>
      have hg':R.good (br (Nat.beq z esz) (br (Nat.beq l.length (Nat.mul m z)) (κ m (.l (l.map RV.v))) (.fail "")) (.fail "")) := hg
      obtain ⟨h1, e1⟩ := Ae hg'
      rw [e1] at hg'
      obtain ⟨h2, e2⟩ := Ae hg'
      have h1 := Nat.eq_of_beq_eq_true h1
      subst h1
      have hlm:l.length=m*z := Nat.eq_of_beq_eq_true h2
      · refine ⟨m, .l (l.map RV.v), e1.trans e2, by simp [Cs.len, hlm], fun φ w X g hX => ?_⟩
        simp only [As] at hX
        obtain ⟨ad, cap, rfl, c1, c3, c4⟩ := hX
        rcases Nat.eq_zero_or_pos m with h0 | h0
        · subst h0
          have hl0:l=[] := List.eq_nil_of_length_eq_zero (by rw [hlm, Nat.zero_mul])
          subst hl0
          exact ⟨[], by simp, by simp, fun i v hv => by simp [Cs.at] at hv, fun w => rfl, fun k w' hk _ => by
            have hk0:k=0 := by omega
            subst hk0
            show (loadCells ad (0*z)).run P w'=_
            rw [Nat.zero_mul]; rfl⟩
        obtain ⟨b, q, c, e, fr, rfl, c2, c4⟩ := c4 h0
        obtain ⟨vs, q1, q2, q3, q4⟩ := Kq (φ := φ) c4
        refine ⟨vs, by rw [q1, c3], q3, fun j v hv => ?_, fun w => rfl, fun k w' hk hw' => ?_⟩
        · obtain ⟨x, hx, hr⟩ := (Cr.1 q4).2 j v hv
          exact ⟨x, hx, hr, q3 x (List.mem_of_getElem? hx)⟩
        · show (loadCells ⟨b, q, none⟩ (k*z)).run P w'=_
          have hlen:(vs.take (k*z)).length=k*z := by rw [List.length_take, q1, c3]; exact Nat.min_eq_left (Nat.mul_le_mul_right _ hk)
          have hrun := Dr (P := P) (w := w') (off := q) (vs.take (k*z)) (by rw [hw']; exact (g.glob b c e fr c2).2) (fun j v hj => by
            rw [List.getElem?_take] at hj
            split at hj
            · exact q2 j v hj
            · cases hj)
          rw [hlen] at hrun
          exact hrun
    | rb m d =>
      have hg':R.good (br (Nat.beq esz 1) (κ m (.b m d)) (.fail "")) := hg
      obtain ⟨h1, e1⟩ := Ae hg'
      have h1 := Nat.eq_of_beq_eq_true h1
      subst h1
      refine ⟨m, .b m d, e1, by simp [Cs.len], fun φ w X g hX => ?_⟩
      simp only [As, GK] at hX
      obtain ⟨ad, cap, rfl, c1, c3, c4⟩ := hX
      rcases Nat.eq_zero_or_pos m with h0 | h0
      · subst h0
        exact ⟨[], by simp, by simp, fun i v hv => absurd (Cs.lt_of_at hv) (by simp [Cs.len]), fun w => rfl, fun k w' hk _ => by
          have hk0:k=0 := by omega
          subst hk0
          rfl⟩
      obtain ⟨b, q, c, e, fr, rfl, c2, c4⟩ := c4 h0
      obtain ⟨vs, q1, q2⟩:∃ vs:List Value, vs.length=m ∧ ∀ j, j<m->vs[j]? = some (.int .u8 ((d / 256 ^ j % 256:Nat):Int)) :=
        ⟨(List.range m).map fun j => .int .u8 ((d / 256 ^ j % 256:Nat):Int), by simp, fun j hj => by simp [List.getElem?_range hj]⟩
      refine ⟨vs, by rw [q1, Nat.mul_one], fun x hx => ?_, fun j v hv => ?_, fun w => rfl, fun k w' hk hw' => ?_⟩
      · obtain ⟨j, hj, rfl⟩ := List.getElem_of_mem hx
        have := q2 j (by rw [←q1]; exact hj)
        rw [List.getElem?_eq_getElem hj] at this
        rw [Option.some.inj this]; rfl
      · have hj:j<m := Cs.lt_of_at hv
        have hv:(if j<m then some (V.int .u8 (d / 256 ^ j % 256)) else none)=some v := hv
        rw [if_pos hj] at hv
        cases hv
        have hlt:d / 256 ^ j % 256<256 := Nat.mod_lt _ (by decide)
        exact ⟨_, q2 j hj, by simp only [As]; exact ⟨hlt, by rw [Ao (by simp only [Hk]; exact hlt)]⟩, rfl⟩
      · show (loadCells ⟨b, q, none⟩ (k*1)).run P w'=_
        have hlen:(vs.take (k*1)).length=k*1 := by rw [List.length_take, q1]; omega
        have hrun := Dr (P := P) (w := w') (off := q) (vs.take (k*1)) (by rw [hw']; exact (g.glob b c e fr c2).2) (fun j v hj => by
          rw [List.getElem?_take] at hj
          split at hj
          · have hjm:j<m := by rw [←q1]; exact (List.getElem?_eq_some_iff.1 hj).1
            rw [q2 j hjm] at hj
            rw [c4 j hjm]; exact hj
          · cases hj)
        rw [hlen] at hrun
        exact hrun
    | _ => exact hg.elim
  | _ => exact hg.elim
theorem Rs {ct:Call} {ty t1 e:TypeId} {d:TypeDesc} {x y:Operand} {x' y':Opd} {s eb:Nat} {z:List V} (ho:o.op = .call ct) (hb:ct.callee = .builtin .append) (hts:ct.argTypes.toList=[ty, t1]) (hargs:ct.args.toList=[x, y])
    (hx:AH N x=some x') (hy:AH N y=some y') (ht:P.underlying ty=some (.slice e)) (hu:P.underlying t1=some d) (hd:∀ k, d ≠ .int k) (hs:Bj P e=some s) (hbe:Fh P e=some eb) (hz:Dw P e=some z)
    (hsz:s=z.length) (h0:0<s) (hb0:0<eb):CX P ρ B N o (LR s eb x' y' cf t h n) t h n := by
  intro κ hg
  have e1:LR s eb x' y' cf t h n κ=J4 s (ev y' t) h fun m c => Ep s eb (ev x' t) m c h n κ := by simp only [LR, AD]
  rw [e1] at hg
  obtain ⟨m, c, e2, hcl, hsrc⟩ := MF (P := P) (ρ := ρ) (B := B) (n := n) hg
  rw [e2] at hg
  obtain ⟨zv, it, hi, hzv, hr⟩ := De (ρ := ρ) hz
  have hits:it.size=s := by unfold Bj at hs; rw [hi] at hs; simpa using hs
  have hitb:it.bytes=eb := by unfold Fh at hbe; rw [hi] at hbe; simpa using hbe
  subst hits hitb
  have hzs:zv.cells.size=it.size := by have := B5 (hr (fun _ => none)).1; simp at this; rw [this, hsz]
  obtain ⟨v, h1, n1, e3, H⟩ := IU (P := P) (ρ := ρ) (B := B) (ats := #[ty, t1]) (e := e) hzs h0 hb0 hg
  have hargs':ct.args = #[x, y] := by rw [←hargs]
  have hts':ct.argTypes = #[ty, t1] := by rw [←hts]
  refine ⟨v, h1, n1, e1.trans (e2.trans e3), .value fun φ a w hT g => ?_⟩
  obtain ⟨vs, q1, q2, q3, q4, q5⟩ := hsrc φ w _ g (Ad hy hT)
  obtain ⟨φ', X, w', r1, r2, r3, r4⟩ := H φ w (a.eval x) (a.eval y) o.type g (Ad hx hT) ⟨vs, q1, hcl, q2, q3, Nn ht hi hzv hb0 hu hd q4 fun w' hw' => by
    have := q5 m w' (Nat.le_refl _) hw'
    rwa [List.take_of_length_le (by omega)] at this⟩
  exact ⟨φ', X, w', DH ho hb fun cs => by simp [builtin, hargs', hts', r1], r2, r3, r4⟩
theorem PN {ct:Call} {ty t1 e:TypeId} {ku:IntKind} {x y:Operand} {x' y':Opd} {s eb:Nat} {z:List V} (ho:o.op = .call ct) (hb:ct.callee = .builtin .append) (hts:ct.argTypes.toList=[ty, t1]) (hargs:ct.args.toList=[x, y])
    (hx:AH N x=some x') (hy:AH N y=some y') (ht:P.underlying ty=some (.slice e)) (hu:P.underlying t1=some (.int ku)) (hs:Bj P e=some s) (hbe:Fh P e=some eb) (hz:Dw P e=some z)
    (hsz:s=z.length) (h0:0<s) (hb0:0<eb):CX P ρ B N o (J7 s eb (Lh z) z x' y' cf t h n) t h n := by
  intro κ hg
  have e1:J7 s eb (Lh z) z x' y' cf t h n κ=IW (ev y' t) fun m => br (Nat.ble (Nat.mul eb m) 281474976710656) (Ff (Lh z) z m fun c => Ep s eb (ev x' t) m c h n κ) (.fail "") := by simp only [J7, AD]
  rw [e1] at hg
  obtain ⟨k, m, hyv, hm, e2⟩ := Dv hg
  rw [e2] at hg
  obtain ⟨h3, e3⟩ := Ae hg
  have h3:eb*m≤281474976710656 := Aa.1 h3
  rw [e3] at hg
  obtain ⟨c, e4, hcl, hca⟩ := Hw (Lh z) z m (fun c => Ep s eb (ev x' t) m c h n κ) MY
  rw [e4] at hg
  obtain ⟨zv, it, hi, hzv, hr⟩ := De (ρ := ρ) hz
  have hits:it.size=s := by unfold Bj at hs; rw [hi] at hs; simpa using hs
  have hitb:it.bytes=eb := by unfold Fh at hbe; rw [hi] at hbe; simpa using hbe
  subst hits hitb
  have hzs:zv.cells.size=it.size := by have := B5 (hr (fun _ => none)).1; simp at this; rw [this, hsz]
  obtain ⟨v, h1, n1, e5, H⟩ := IU (P := P) (ρ := ρ) (B := B) (ats := #[ty, t1]) (e := e) hzs h0 hb0 hg
  have hargs':ct.args = #[x, y] := by rw [←hargs]
  have hts':ct.argTypes = #[ty, t1] := by rw [←hts]
  refine ⟨v, h1, n1, e1.trans (e2.trans (e3.trans (e4.trans e5))), .value fun φ a w hT g => ?_⟩
  have g2 := Ad hy hT
  rw [hyv] at g2
  have gy := Eg hm g2
  have hcells:∀ (i:Nat) (v:V), i<m*z.length->z[i % z.length]? = some v->∃ x, (Builtin.zeroCells zv.cells m).toList[i]? = some x∧As ρ φ v x∧x.oneCell'=true := fun i v hi hv => by
    obtain ⟨x, hx, hrx⟩ := DO (hr φ).1 (hr φ).2 (k := m*zv.cells.size) (by rw [hzs, hsz]; exact hi) hv
    refine ⟨x, ?_, hrx⟩
    rw [Array.getElem?_toList]
    exact hx
  obtain ⟨φ', X, w', r1, r2, r3, r4⟩ := H φ w (a.eval x) (.int k m) o.type g (Ad hx hT) ⟨(Builtin.zeroCells zv.cells m).toList, by simp [size_zeroCells, hzs], by rw [hcl, hsz], fun u hu => by
      obtain ⟨i, hi', rfl⟩ := List.getElem_of_mem hu
      have hlt:i<m*z.length := by simpa [size_zeroCells, hzs, hsz] using hi'
      have hzp:i % z.length<z.length := Nat.mod_lt _ (by omega)
      obtain ⟨x, hx, _, hox⟩ := hcells i _ hlt (List.getElem?_eq_getElem hzp)
      rw [List.getElem?_eq_getElem hi'] at hx
      cases hx; exact hox, fun i v hv => by
      have hlt := Cs.lt_of_at hv
      rw [hcl] at hlt
      rw [hca i hlt] at hv
      exact hcells i v hlt hv, NU ht hi hzv hb0 h0 hu (by rw [Nat.mul_comm]; exact h3)⟩
  exact ⟨φ', X, w', DH ho hb fun cs => by simp [builtin, hargs', hts', gy, r1], r2, r3, r4⟩
end
end Go.Ev

namespace Go.Ev
set_option linter.unusedVariables false
section
variable {P:Program} {ρ:Env} {B N:Nat} {o:Oper} {cf:CF} {t:Regs} {h:Heap} {n:K4}
theorem RD {ct:Call} {ty e:TypeId} {ts:List TypeId} {x y:Operand} {x' y':Opd} {s:Nat} (ho:o.op = .call ct) (hb:ct.callee = .builtin .copy) (hts:ct.argTypes.toList=ty::ts) (hargs:ct.args.toList=[x, y])
    (hx:AH N x=some x') (hy:AH N y=some y') (ht:P.underlying ty=some (.slice e)) (hs:Bj P e=some s):CX P ρ B N o (Mg s x' y' cf t h n) t h n := by
  intro κ hg
  have e1:Mg s x' y' cf t h n κ=J4 s (ev y' t) h fun m y => DM (ev x' t) (κ (.int .i64 0) h n) (fun p off len cap ex esz' => br (Nat.beq esz' s) (br (Nat.beq (@Bool.rec (fun _ => Nat) len m (Nat.ble m len)) 0) (κ (.int .i64 0) h n) (Bh y 0 (Nat.mul (@Bool.rec (fun _ => Nat) len m (Nat.ble m len)) s) fun y => DV h p off y fun h => DX (@Bool.rec (fun _ => Nat) len m (Nat.ble m len)) fun v => κ v h n)) (.fail "")) := by
    simp only [Mg, AD, A9]
  rw [e1] at hg
  obtain ⟨m, c, e2, hcl, hsrc⟩ := MF (P := P) (ρ := ρ) (B := B) (n := n) hg
  rw [e2] at hg
  have hargs':ct.args = #[x, y] := by rw [←hargs]
  have hts':ct.argTypes[0]? = some ty := by rw [←Array.getElem?_toList, hts]; rfl
  rcases Dl hg with ⟨hv, e3⟩ | ⟨p, off, len, cap, ex, esz, hv, e3⟩
  · refine ⟨_, h, n, e1.trans (e2.trans e3), .value fun φ a w hT g => ?_⟩
    obtain ⟨vs, q1, q2, q3, q4, q5⟩ := hsrc φ w _ g (Ad hy hT)
    have g1 := Ad hx hT
    rw [hv] at g1
    have gx := Cd g1
    have h0 := q5 0 w (Nat.zero_le _) rfl
    refine ⟨φ, goInt 0, w, DH ho hb fun cs => ?_, Fr.refl h φ n w, g, Dm (by decide) φ⟩
    simp [builtin, Builtin.copy_, hts', hargs', gx, Ci, run_underlying ht, q4, AM hs]
    simp at h0
    simp [h0]
  · rw [e3] at hg
    obtain ⟨h4, e4⟩ := Ae hg
    have h4 := Nat.eq_of_beq_eq_true h4
    subst h4
    rw [e4] at hg
    have hk:(@Bool.rec (fun _ => Nat) len m (Nat.ble m len))=Nat.min m len := by
      cases hb:Nat.ble m len with
      | true => have := Aa.1 hb; show m=Nat.min m len; exact (Nat.min_eq_left this).symm
      | false =>
        have:¬ m≤len := fun h => by rw [Aa.2 h] at hb; cases hb
        show len=Nat.min m len; exact (Nat.min_eq_right (by omega)).symm
    have e5 := hk
    generalize (@Bool.rec (fun _ => Nat) len m (Nat.ble m len))=k at hg e1 e2 e3 e4 hk
    have hkm:k≤m := by rw [hk]; exact Nat.min_le_left _ _
    have hkl:k≤len := by rw [hk]; exact Nat.min_le_right _ _
    rcases OG hg with ⟨h6, e6⟩ | ⟨h6, e6⟩
    · have h6 := Nat.eq_of_beq_eq_true h6
      subst h6
      refine ⟨_, h, n, e1.trans (e2.trans (e3.trans (e4.trans e6))), .value fun φ a w hT g => ?_⟩
      obtain ⟨vs, q1, q2, q3, q4, q5⟩ := hsrc φ w _ g (Ad hy hT)
      have g1 := Ad hx hT
      rw [hv] at g1
      obtain ⟨b, s, tot, q, cap', hφ, gx, c1, c2, c3, c4⟩ := CW g1
      have h0 := q5 0 w (Nat.zero_le _) rfl
      simp at h0
      refine ⟨φ, goInt 0, w, DH ho hb fun cs => ?_, Fr.refl h φ n w, g, Dm (by decide) φ⟩
      have hst:(storeCells (⟨b, q, none⟩:Addr) []).run P w = .ok () w := rfl
      simp [builtin, Builtin.copy_, hts', hargs', gx, run_underlying ht, q4, AM hs, ←hk, h0, hst]
    · rw [e6] at hg
      obtain ⟨hle, z, hzl, hza, e7⟩ := CL hg
      rw [e7] at hg
      obtain ⟨cs, prev, zz, hp, hz, e8⟩ := Fq hg
      rw [e8] at hg
      obtain ⟨h9, e9⟩ := Ei hg
      have hzl:z.len=k*esz := hzl
      have hk0:0<k := Nat.pos_of_ne_zero fun h => by subst h; simp at h6
      refine ⟨_, _, n, e1.trans (e2.trans (e3.trans (e4.trans (e6.trans (e7.trans (e8.trans e9)))))), .value fun φ a w hT g => ?_⟩
      obtain ⟨vs, q1, q2, q3, q4, q5⟩ := hsrc φ w _ g (Ad hy hT)
      have g1 := Ad hx hT
      rw [hv] at g1
      obtain ⟨b, s, tot, q, cap', hφ, gx, c1, c2, c3, c4⟩ := CW g1
      obtain ⟨c5, c6⟩ := c4 (by omega)
      have hfc := q5 k w hkm rfl
      have hvl:(vs.take (k*esz)).length=z.len := by rw [List.length_take, q1, hzl]; exact Nat.min_eq_left (Nat.mul_le_mul_right _ hkm)
      obtain ⟨w', r1, r2, r3⟩ := FF (P := P) g hp hφ hz (vs := vs.take (k*esz)) hvl (fun i v hi => by
        have hlt := Cs.lt_of_at hi
        rw [hza i (by have := hlt; rw [hzl] at this; exact this), Nat.zero_add] at hi
        obtain ⟨X, hX, hr, _⟩ := q3 i v hi
        exact ⟨X, by rw [List.getElem?_take, if_pos (by rw [←hzl]; exact hlt)]; exact hX, hr⟩) (fun v hv => q2 v (List.mem_of_mem_take hv))
      refine ⟨φ, goInt k, w', DH ho hb fun cs => ?_, r3, r2, Dm h9 φ⟩
      rw [←c5] at r1
      simp [builtin, Builtin.copy_, hts', hargs', gx, run_underlying ht, q4, AM hs, ←hk, hfc, r1]
theorem RU {ct:Call} {ty e:TypeId} {ts:List TypeId} {x:Operand} {xs:List Operand} {x':Opd} {s:Nat} {z:List V} (ho:o.op = .call ct) (hb:ct.callee = .builtin .clear) (hts:ct.argTypes.toList=ty::ts) (hargs:ct.args.toList=x::xs)
    (hx:AH N x=some x') (ht:P.underlying ty=some (.slice e)) (hs:Bj P e=some s) (hz:Dw P e=some z) (hsz:s=z.length) (h0:0<s):CX P ρ B N o (LY (Lh z) z x' cf t h n) t h n := by
  intro κ hg
  have e1:LY (Lh z) z x' cf t h n κ=DM (ev x' t) (κ (.tup []) h n) (fun p off len cap ex esz => br (Nat.beq z.length esz) (br (Nat.beq len 0) (κ (.tup []) h n) (Ff (Lh z) z len fun y => DV h p off y fun h => κ (.tup []) h n)) (.fail "")) := by simp only [LY, AD, CV]
  rw [e1] at hg
  have hargs':ct.args[0]? = some x := by rw [←Array.getElem?_toList, hargs]; rfl
  have hts':ct.argTypes[0]? = some ty := by rw [←Array.getElem?_toList, hts]; rfl
  have rt:∀ φ:AT, As ρ φ (.tup []) (.tuple #[]) := fun φ => by simp only [As]; exact ⟨#[], rfl, AF.2 rfl⟩
  rcases Dl hg with ⟨hv, e2⟩ | ⟨p, off, len, cap, ex, esz, hv, e2⟩
  · refine ⟨_, h, n, e1.trans e2, .value fun φ a w hT g => ?_⟩
    have g1 := Ad hx hT
    rw [hv] at g1
    have gx := Cd g1
    refine ⟨φ, .tuple #[], w, DH ho hb fun cs => ?_, Fr.refl h φ n w, g, rt φ⟩
    simp [builtin, Builtin.clear_, hts', hargs', gx, Ci, run_underlying ht]
  · rw [e2] at hg
    obtain ⟨h3, e3⟩ := Ae hg
    have h3 := Nat.eq_of_beq_eq_true h3
    rw [e3] at hg
    rcases OG hg with ⟨h4, e4⟩ | ⟨h4, e4⟩
    · have h4 := Nat.eq_of_beq_eq_true h4
      subst h4
      refine ⟨_, h, n, e1.trans (e2.trans (e3.trans e4)), .value fun φ a w hT g => ?_⟩
      have g1 := Ad hx hT
      rw [hv] at g1
      obtain ⟨b, s', tot, q, cap', hφ, gx, c1, c2, c3, c4⟩ := CW g1
      refine ⟨φ, .tuple #[], w, DH ho hb fun cs => ?_, Fr.refl h φ n w, g, rt φ⟩
      simp [builtin, Builtin.clear_, hts', hargs', gx, run_underlying ht]
    · rw [e4] at hg
      obtain ⟨y, e5, hyl, hya⟩ := Hw (Lh z) z len (fun y => DV h p off y fun h => κ (.tup []) h n) MY
      rw [e5] at hg
      obtain ⟨cs, prev, zz, hp, hzz, e6⟩ := Fq hg
      refine ⟨_, _, n, e1.trans (e2.trans (e3.trans (e4.trans (e5.trans e6)))), .value fun φ a w hT g => ?_⟩
      have g1 := Ad hx hT
      rw [hv] at g1
      obtain ⟨b, s', tot, q, cap', hφ, gx, c1, c2, c3, c4⟩ := CW g1
      have hl0:0<len := Nat.pos_of_ne_zero fun h => by subst h; simp at h4
      obtain ⟨c5, c6⟩ := c4 (by omega)
      obtain ⟨zv, it, hi, hzv, hr⟩ := De (ρ := ρ) hz
      have hzs:zv.cells.size=z.length := by have := B5 (hr φ).1; simpa using this
      have hzr:∀ w, (zeroValue e).run P w = .ok zv w := Dx (by rw [hi]; exact hzv)
      have hat:∀ i, i<len*z.length->∃ v, z[i % z.length]? = some v := fun i hi => by
        have hzp:i % z.length<z.length := Nat.mod_lt _ (by omega)
        exact ⟨_, List.getElem?_eq_getElem hzp⟩
      obtain ⟨w', r1, r2, r3⟩ := FF (P := P) g hp hφ hzz (vs := (Builtin.zeroCells zv.cells len).toList) (by simp [size_zeroCells, hzs, hyl]) (fun i v hi => by
        have hlt := Cs.lt_of_at hi
        rw [hyl] at hlt
        rw [hya i hlt] at hi
        obtain ⟨X, hX, hrX, _⟩ := DO (hr φ).1 (hr φ).2 (k := len*zv.cells.size) (by rw [hzs]; exact hlt) hi
        exact ⟨X, by rw [Array.getElem?_toList]; exact hX, hrX⟩) (fun u hu => by
        obtain ⟨i, hi', rfl⟩ := List.getElem_of_mem hu
        have hlt:i<len*z.length := by simpa [size_zeroCells, hzs] using hi'
        obtain ⟨v, hv⟩ := hat i hlt
        obtain ⟨X, hX, _, hoX⟩ := DO (hr φ).1 (hr φ).2 (k := len*zv.cells.size) (by rw [hzs]; exact hlt) hv
        have hX:(Builtin.zeroCells zv.cells len)[i]? = some X := hX
        rw [←Array.getElem?_toList, List.getElem?_eq_getElem hi'] at hX
        cases hX; exact hoX)
      rw [←c5] at r1
      refine ⟨φ, .tuple #[], w', DH ho hb fun cs => ?_, r3, r2, rt φ⟩
      obtain ⟨m, rfl⟩:∃ m, len=m+1 := ⟨len - 1, by omega⟩
      simp [builtin, Builtin.clear_, hts', hargs', gx, run_underlying ht, hzr, r1]
/-- A call of a function ends with a value that R takes. -/
def Le (P:Program) (f:FuncId) (args:Array Value) (w:World) (R:Value->World->Prop):Prop :=
  ∀ (o:Oper) (a:Act) (K:Act->World->Prop) (Q:Exit->Act->World->Prop), (∀ x w', R x w'->K (a.put o.dst x) w')->o.upon P a K Q ((callFunc f args).run P w)
def E9 (P:Program) (ρ:Env) (B:Nat) (cf:CF):Prop :=
  ∀ f args h n v h1 n1, cf f args h n = .rv v h1 n1->∀ φ w (xs:Array Value), Gam ρ B h n φ w->By ρ φ args xs.toList →
    Le P f xs w fun x w' => ∃ φ', Fr h h1 φ φ' n n1 w w'∧Gam ρ B h1 n1 φ' w'∧As ρ φ' v x
theorem Mq {κ:KV} {r:R} (hg:R.good (@R.rec (fun _ => R) (Fp "") (fun v h n => κ v h n) (fun w => .fail w) (Fp "") r)) :
    ∃ v h1 n1, r = .rv v h1 n1∧@R.rec (fun _ => R) (Fp "") (fun v h n => κ v h n) (fun w => .fail w) (Fp "") r=κ v h1 n1 := by
  cases r with
  | ok e t h n => exact hg.elim
  | rv v h1 n1 => exact ⟨v, h1, n1, rfl, rfl⟩
  | fail w => exact hg.elim
  | both a b => exact hg.elim
theorem PF {ct:Call} {f:FuncId} {args:List Opd} (hcf:E9 P ρ B cf) (ho:o.op = .call ct) (hc:ct.callee = .value (.func f)) (ha:Bw N ct.args.toList=some args):CX P ρ B N o (N7 f args cf t h n) t h n := by
  intro κ hg
  have e1:N7 f args cf t h n κ=@R.rec (fun _ => R) (Fp "") (fun v h n => κ v h n) (fun w => .fail w) (Fp "") (cf f (args.map (ev · t)) h n) := by simp only [N7, FD]
  rw [e1] at hg
  obtain ⟨v, h1, n1, hr, e2⟩ := Mq hg
  refine ⟨v, h1, n1, e1.trans e2, fun φ a w hT g K Q hK => ?_⟩
  have := hcf f _ h n v h1 n1 hr φ w (ct.args.map a.eval) g (by rw [Array.toList_map]; exact F0 ha hT) o a K Q (fun x w' ⟨φ', f1, g1, r1⟩ => hK φ' x w' f1 g1 r1)
  unfold Oper.wp
  have e3:(execOp a.eval o).run P w=(callFunc f (ct.args.map a.eval)).run P w := by
    simp [execOp, ho, resolve, hc, Act.eval, Deferred.ofValue, invoke]
  rw [e3]; exact this
theorem Oa {ct:Call} {x:Operand} {x':Opd} {args:List Opd} (hcf:E9 P ρ B cf) (ho:o.op = .call ct) (hc:ct.callee = .value x) (hx:AH N x=some x') (ha:Bw N ct.args.toList=some args):CX P ρ B N o (EQ x' args cf t h n) t h n := by
  intro κ hg
  have e1:EQ x' args cf t h n κ=Pm (ev x' t) fun f caps => @R.rec (fun _ => R) (Fp "") (fun v h n => κ v h n) (fun w => .fail w) (Fp "") (cf f (args.map (ev · t)++caps) h n) := by
    simp only [EQ, AD, FD, DA]
  rw [e1] at hg
  obtain ⟨f, caps, hxv, e2⟩ := Mh hg
  rw [e2] at hg
  obtain ⟨v, h1, n1, hr, e3⟩ := Mq hg
  refine ⟨v, h1, n1, e1.trans (e2.trans e3), fun φ a w hT g K Q hK => ?_⟩
  have g1 := Ad hx hT
  rw [hxv] at g1
  obtain ⟨cs, gx, hcs⟩ := Jc g1
  have := hcf f _ h n v h1 n1 hr φ w (ct.args.map a.eval++cs) g (by rw [Array.toList_append, Array.toList_map]; exact FI (F0 ha hT) hcs) o a K Q (fun x w' ⟨φ', f1, g1, r1⟩ => hK φ' x w' f1 g1 r1)
  unfold Oper.wp
  have e3:(execOp a.eval o).run P w=(callFunc f (ct.args.map a.eval++cs)).run P w := by
    simp [execOp, ho, resolve, hc, gx, Deferred.ofValue, invoke]
  rw [e3]; exact this
theorem RW {why:String}:CX P ρ B N o (QM why cf t h n) t h n := fun κ hg => hg.elim
end
end Go.Ev

namespace Go.Ev
set_option linter.unusedVariables false
section
variable {P:Program} {ρ:Env} {B N:Nat} {o:Oper} {cf:CF} {t:Regs} {h:Heap} {n:K4}
theorem Ak {α β:Type} {x:Option α} {f:α->β} {y:β} (h:x.map f=some y):∃ a, x=some a∧f a=y := by
  cases x with
  | none => cases h
  | some a => exact ⟨a, rfl, by simpa using h⟩
theorem Bs {α β:Type} {x:Option α} {f:α->Option β} {y:β} (h:x.bind f=some y):∃ a, x=some a∧f a=some y := by
  cases x with
  | none => cases h
  | some a => exact ⟨a, rfl, h⟩
theorem B9 {α:Type} {c:Prop} [Decidable c] {x y:α} (h:(if c then some x else none)=some y):c∧x=y := by
  split at h
  · exact ⟨‹c›, by simpa using h⟩
  · cases h
theorem Ko {e:TypeId} (h:Xv P e=true):P.underlying e=some (.int .u8) := by
  unfold Xv at h
  split at h
  · assumption
  · cases h
theorem Ln {ct:Call} {b:Builtin} {args:List Opd} {k:AK} (ho:o.op = .call ct) (hb:ct.callee = .builtin b) (ha:Bw N ct.args.toList=some args) (hk:F7 P b ct.argTypes args=some k):CX P ρ B N o (HK k cf t h n) t h n := by
  have two:∀ {x y:Opd}, args=[x, y]->∃ x0 y0, ct.args.toList=[x0, y0]∧AH N x0=some x∧AH N y0=some y := fun {x y} e => by
    subst e
    cases hl:ct.args.toList with
    | nil => rw [hl] at ha; simp [Bw] at ha
    | cons x0 l =>
      rw [hl] at ha
      simp only [Bw] at ha
      split at ha
      · rename_i x1 xs1 h1 h2
        cases ha
        cases l with
        | nil => simp [Bw] at h2
        | cons y0 l =>
          simp only [Bw] at h2
          split at h2
          · rename_i y1 ys1 h3 h4
            cases h2
            cases l with
            | nil => exact ⟨x0, y0, rfl, h1, h3⟩
            | cons z l =>
              simp only [Bw] at h4
              split at h4 <;> cases h4
          · cases h2
      · cases ha
  have one:∀ {x:Opd} {l:List Opd}, args=x::l->∃ x0 l0, ct.args.toList=x0::l0∧AH N x0=some x := fun {x l} e => by
    subst e
    cases hl:ct.args.toList with
    | nil => rw [hl] at ha; simp [Bw] at ha
    | cons x0 l0 =>
      rw [hl] at ha
      simp only [Bw] at ha
      split at ha
      · rename_i x1 xs1 h1 h2
        cases ha
        exact ⟨x0, l0, rfl, h1⟩
      · cases ha
  unfold F7 at hk
  split at hk
  · -- len
    rename_i ty ts x l hts
    obtain ⟨x0, l0, hl, hx⟩ := one rfl
    split at hk
    · cases hk; exact (Me (cf := cf) ho hb hts hl hx (by assumption)).sound
    · cases hk; exact (Mm (cf := cf) ho hb hts hl hx (by assumption)).sound
    · cases hk; exact (Ml (cf := cf) ho hb hts hl hx (by assumption)).sound
    · cases hk
  · obtain ⟨x0, y0, hl, hx, hy⟩ := two rfl
    cases hk; exact (LT (cf := cf) ho hb hl hx hy).sound
  · obtain ⟨x0, y0, hl, hx, hy⟩ := two rfl
    cases hk; exact (Mp (cf := cf) ho hb hl hx hy).sound
  · obtain ⟨x0, y0, z0, hl, hx, hy, hz⟩ := Hi ha
    cases hk; exact (Kl (cf := cf) ho hb hl hx hy hz).sound
  · rename_i ty u x y hts
    obtain ⟨x0, y0, hl, hx, hy⟩ := two rfl
    split at hk
    · rename_i e ku ht hu
      split at hk
      · rename_i s b z h1 h2 h3
        obtain ⟨hc, rfl⟩ := B9 hk
        simp only [Bool.and_eq_true, beq_iff_eq, decide_eq_true_eq] at hc
        exact PN (cf := cf) ho hb hts hl hx hy ht hu h1 h2 h3 hc.1.1 hc.1.2 hc.2
      · cases hk
    · rename_i e d hd ht hu
      split at hk
      · rename_i s b z h1 h2 h3
        obtain ⟨hc, rfl⟩ := B9 hk
        simp only [Bool.and_eq_true, beq_iff_eq, decide_eq_true_eq] at hc
        exact Rs (cf := cf) ho hb hts hl hx hy ht hu (fun k e2 => hd k e2) h1 h2 h3 hc.1.1 hc.1.2 hc.2
      · cases hk
    · cases hk
  · rename_i ty ts x y hts
    obtain ⟨x0, y0, hl, hx, hy⟩ := two rfl
    split at hk
    · rename_i e ht
      split at hk
      · rename_i s h1
        obtain ⟨hc, rfl⟩ := B9 hk
        exact RD (cf := cf) ho hb hts hl hx hy ht h1
      · cases hk
    · cases hk
  · rename_i ty ts m k' hts
    obtain ⟨x0, y0, hl, hx, hy⟩ := two rfl
    split at hk
    · rename_i kt e ht
      obtain ⟨pl, hp, rfl⟩ := Ak hk
      exact Rv (cf := cf) ho hb hts hl hx hy ht hp
    · cases hk
  · rename_i ty ts x l hts
    obtain ⟨x0, l0, hl, hx⟩ := one rfl
    split at hk
    · cases hk; exact (Mw (cf := cf) ho hb hts hl hx (by assumption)).sound
    · cases hk
  · rename_i ty ts x l hts
    obtain ⟨x0, l0, hl, hx⟩ := one rfl
    split at hk
    · rename_i e ht
      split at hk
      · rename_i s z h1 h2
        obtain ⟨hc, rfl⟩ := B9 hk
        simp only [Bool.and_eq_true, beq_iff_eq, decide_eq_true_eq] at hc
        exact RU (cf := cf) ho hb hts hl hx ht h1 h2 hc.1 hc.2
      · cases hk
    · cases hk
  · cases hk
theorem KF (hρ:Bo ρ) (hcf:E9 P ρ B cf) {k:AK} (hk:Fs P N o=some k):CX P ρ B N o (HK k cf t h n) t h n := by
  unfold Fs at hk
  split at hk
  · rename_i x ho
    obtain ⟨x', hx, rfl⟩ := Ak hk
    exact (Iv (cf := cf) (.inl ho) hx).sound
  · rename_i x ho
    obtain ⟨x', hx, rfl⟩ := Ak hk
    exact (Iv (cf := cf) (.inr ho) hx).sound
  · rename_i c a b ho
    split at hk
    · cases hk; exact (KI (cf := cf) ho (by assumption) (by assumption) (by assumption)).sound
    · cases hk
  · rename_i e ho
    obtain ⟨z, hz, rfl⟩ := Ak hk
    exact RC (cf := cf) ho hz
  · rename_i e x ho
    obtain ⟨x', hx, rfl⟩ := Ak hk
    exact RA (cf := cf) hρ ho hx
  · rename_i ty parts ho
    split at hk
    · rename_i fs z hu hz
      obtain ⟨places, hpl, hk⟩ := Bs hk
      obtain ⟨ps, hps, rfl⟩ := Ak hk
      exact (FH (cf := cf) hρ ho hz hps fun it zv hi hzv l => by unfold Program.built; simp only [hi, hu, hzv, hpl]).sound
    · rename_i m e z hu hz
      obtain ⟨s, hs, hk⟩ := Bs hk
      obtain ⟨ps, hps, rfl⟩ := Ak hk
      refine (FH (cf := cf) hρ ho hz hps fun it zv hi hzv l => ?_).sound
      unfold Program.built
      unfold Bj at hs
      cases hie:P.info? e with
      | none => rw [hie] at hs; cases hs
      | some ie => rw [hie] at hs; cases hs; simp only [hi, hu, hzv, hie]
    · cases hk
  · rename_i ty len parts ho
    split at hk
    · rename_i e hu
      split at hk
      · rename_i s z hs hz
        split at hk
        · rename_i hc
          obtain ⟨ps, hps, rfl⟩ := Ak hk
          simp only [Bool.and_eq_true, beq_iff_eq, decide_eq_true_eq] at hc
          exact N9 (cf := cf) hρ ho hu hs hz hc.1.1 hc.1.2 hc.2 hps
        · cases hk
      · cases hk
    · cases hk
  · rename_i ty a ho
    split at hk
    · cases hk; exact (MG (cf := cf) ho (by assumption) (by assumption) (by assumption)).sound
    · cases hk; exact (OK (cf := cf) ho (by assumption) (by assumption)).sound
    · cases hk
  · rename_i ty a x ho
    split at hk
    · cases hk; exact T7 (cf := cf) hρ ho (by assumption) (by assumption) (by assumption)
    · cases hk
  · rename_i x ho
    obtain ⟨x', hx, rfl⟩ := Ak hk
    exact (Jz (cf := cf) ho hx).sound
  · rename_i op ty x y yt ho
    split at hk
    · rename_i a b ha hb
      split at hk
      · cases hk; exact (D0 (cf := cf) ho ha hb).sound
      · cases hk; exact (D0 (cf := cf) ho ha hb).sound
      · cases hk; exact (D0 (cf := cf) ho ha hb).sound
      · cases hk; exact (D0 (cf := cf) ho ha hb).sound
      · split at hk
        · cases hk
        · rename_i hgd
          obtain ⟨pl, hp, rfl⟩ := Ak hk
          exact (IP (cf := cf) (neg := false) ho ha hb hp (by simpa using hgd)).sound
      · split at hk
        · cases hk
        · rename_i hgd
          obtain ⟨pl, hp, rfl⟩ := Ak hk
          exact (IP (cf := cf) (neg := true) ho ha hb hp (by simpa using hgd)).sound
      · cases hk; exact (D0 (cf := cf) ho ha hb).sound
    · cases hk
  · rename_i op ty x ho
    split at hk
    · cases hk; exact (Lu (cf := cf) ho (by assumption)).sound
    · cases hk; exact (Mn (cf := cf) ho (by assumption)).sound
    · cases hk; exact (Lz (cf := cf) ho (by assumption)).sound
    · cases hk
  · rename_i src dst x ho
    split at hk
    · cases hk; exact (LI (cf := cf) ho (by assumption) (by assumption) (by assumption)).sound
    · cases hk; exact (LL (cf := cf) ho (by assumption) (by assumption) (by assumption)).sound
    · rename_i e x' hs hd hx
      obtain ⟨hc, rfl⟩ := B9 hk
      exact Rj (cf := cf) ho hx hs hd (Ko hc)
    · rename_i e x' hs hd hx
      obtain ⟨hc, rfl⟩ := B9 hk
      exact (Ma (cf := cf) ho hx hs hd (Ko hc)).sound
    · rename_i e' e x' hs hd hx
      obtain ⟨hc, rfl⟩ := B9 hk
      simp only [Bool.and_eq_true] at hc
      exact Ru (cf := cf) ho hx hs hd hc.1 (Ko hc.2)
    · cases hk
  · rename_i fn first caps ho
    split at hk
    · rename_i f l hf hl
      cases hk
      have:first = #[] := by cases first; simp_all
      subst this
      exact (KN (cf := cf) ho hl).sound
    · cases hk
  · cases hk; exact OE (cf := cf) (by assumption)
  · rename_i ty l c ho
    split at hk
    · rename_i e l' c' hu hl hc
      split at hk
      · rename_i s b z h1 h2 h3
        obtain ⟨hcc, rfl⟩ := B9 hk
        simp only [Bool.and_eq_true, beq_iff_eq, decide_eq_true_eq] at hcc
        exact Pk (cf := cf) ho hl hc hu h1 h2 h3 hcc.1.1 hcc.1.2 hcc.2
      · cases hk
    · cases hk
  · rename_i ty x hi mx ho
    split at hk
    · obtain ⟨s, hs, rfl⟩ := Ak hk
      exact (Mx (cf := cf) ho (by assumption) (by assumption) (by assumption) (by assumption) hs).sound
    · cases hk
  · rename_i ty x lo hi ho
    split at hk
    · cases hk; exact (Mt (cf := cf) ho (by assumption) (by assumption) (by assumption) (by assumption)).sound
    · obtain ⟨s, hs, hk⟩ := Bs hk
      obtain ⟨hlt, rfl⟩ := B9 hk
      exact (LE (cf := cf) ho (by assumption) (by assumption) (by assumption) (by assumption) hs hlt).sound
    · obtain ⟨s, hs, rfl⟩ := Ak hk
      exact (LM (cf := cf) ho (by assumption) (by assumption) (by assumption) (by assumption) hs).sound
    · cases hk
  · rename_i s x f ho
    split at hk
    · rename_i fs x' hs hx
      obtain ⟨fd, hf, hk⟩ := Bs hk
      split at hk
      · rename_i sz hsz
        cases hk; exact (LF (cf := cf) ho hx hs hf hsz).sound
      · cases hk
    · cases hk
  · rename_i s x f ho
    split at hk
    · rename_i fs x' hs hx
      obtain ⟨fd, hf, hk⟩ := Bs hk
      split at hk
      · cases hk; exact (MR (cf := cf) ho hx hs hf (by assumption) (by assumption)).sound
      · cases hk
    · cases hk
  · rename_i ty x i ho
    split at hk
    · obtain ⟨s, hs, rfl⟩ := Ak hk
      exact (M7 (cf := cf) ho (by assumption) (by assumption) (by assumption) hs).sound
    · obtain ⟨s, hs, rfl⟩ := Ak hk
      exact (MO (cf := cf) ho (by assumption) (by assumption) (by assumption) hs).sound
    · cases hk
  · rename_i ty x i ho
    split at hk
    · cases hk; exact (Mr (cf := cf) ho (by assumption) (by assumption) (by assumption)).sound
    · split at hk
      · cases hk; exact (Mc (cf := cf) ho (by assumption) (by assumption) (by assumption) (by assumption) (by assumption)).sound
      · cases hk
    · cases hk
  · rename_i ty m k' ok ho
    split at hk
    · rename_i kt e m' k'' ht hm hk'
      split at hk
      · rename_i pl z hp hz
        obtain ⟨zz, hzz, rfl⟩ := Ak hk
        exact (ON (cf := cf) ho hm hk' ht hp hz hzz).sound
      · cases hk
    · cases hk
  · rename_i ty m k' v ho
    split at hk
    · rename_i kt e m' k'' v' ht hm hk' hv
      obtain ⟨pl, hp, rfl⟩ := Ak hk
      exact OO (cf := cf) (.inl ho) hm hk' hv ht hp
    · cases hk
  · rename_i ty m k' v ho
    split at hk
    · rename_i kt e m' k'' v' ht hm hk' hv
      obtain ⟨pl, hp, rfl⟩ := Ak hk
      exact OO (cf := cf) (.inr ho) hm hk' hv ht hp
    · cases hk
  · rename_i x i ho
    obtain ⟨x', hx, rfl⟩ := Ak hk
    exact (MA (cf := cf) ho hx).sound
  · rename_i c ho
    split at hk
    · exact Ln ho (by assumption) (by assumption) hk
    · cases hk; exact PF (cf := cf) hcf ho (by assumption) (by assumption)
    · obtain ⟨x', hx, rfl⟩ := Ak hk
      exact Oa (cf := cf) hcf ho (by assumption) hx (by assumption)
    · cases hk
  · cases hk
end
end Go.Ev

namespace Go.Ev
set_option linter.unusedVariables false
section
variable {P:Program} {ρ:Env} {B N:Nat} {cf:CF}
theorem TR.put {φ:AT} {t:Regs} {a:Act} (hT:TR ρ N φ t a) {d:Nat} {p:K2} (hd:d<N) (hp:K2.ofN d=some p) {v:V} {x:Value} (hr:As ρ φ v x):TR ρ N φ (EM p t v) (a.put (some d) x) where
  size := by show (a.tmps.setIfInBounds d x).size=N; simp [hT.size]
  defers := hT.defers
  at_ := fun s q hs hq => by
    show As ρ φ (Bg q (EM p t v)) ((a.tmps.setIfInBounds d x).getD s undef)
    by_cases e:d=s
    · subst e
      rw [hp] at hq; cases hq
      rw [B7]
      have:(a.tmps.setIfInBounds d x).getD d undef=x := by
        rw [Array.getD_eq_getD_getElem?, Array.getElem?_setIfInBounds]; simp [hT.size, hd]
      rw [this]; exact hr
    · have hne:p≠q := fun h => e (K2.ofN_inj hp (h ▸ hq))
      rw [Bx _ _ hne]
      have:(a.tmps.setIfInBounds d x).getD s undef=a.tmps.getD s undef := by
        rw [Array.getD_eq_getD_getElem?, Array.getElem?_setIfInBounds, if_neg e, ←Array.getD_eq_getD_getElem?]
      rw [this]; exact hT.at_ s q hs hq
theorem EZ {φ:AT}:As ρ φ Ay undef := by simp only [Ay, As, undef]; exact ⟨#[], rfl, by simp only [By]⟩
/-- Where an operation's value goes. -/
def Q1 (N:Nat) (dst:Option Nat) (d:Option K2):Prop := match dst, d with
  | none, none => True
  | some s, some p => s<N∧K2.ofN s=some p
  | _, _ => False
def Ds (d:Option K2) (t:Regs) (v:V):Regs := match d with | none => t | some p => EM p t v
theorem TR.puts {φ:AT} {t:Regs} {a:Act} (hT:TR ρ N φ t a) {dst:Option Nat} {d:Option K2} (hd:Q1 N dst d) {v:V} {x:Value} (hr:As ρ φ v x):TR ρ N φ (Ds d t v) (a.put dst x) := by
  cases dst with
  | none => cases d with
    | none => exact hT
    | some p => exact hd.elim
  | some s => cases d with
    | none => exact hd.elim
    | some p => exact hT.put hd.1 hd.2 hr
theorem DC {s:Nat} {p:K2} (h:GL N s=some p):s<N∧K2.ofN s=some p := by
  unfold GL at h
  split at h
  · exact ⟨‹_›, h⟩
  · cases h
def Ph:Value->Option Bool
  | .bool b => some b
  | _ => none
theorem Ok {x:Value} (h:∀ b, x ≠ .bool b):Ph x=none := by
  cases x <;> first | rfl | exact absurd rfl (h _)
theorem GY {g:Option (K2×Bool)} {t:Regs} {yes no:R} (hg:(D2 g t yes no).good) {ops:Array Oper} {o:Oper}
    (hc:(match o.guard with | none => some none | some (j, w) => ((ops[j]?).bind (·.dst)).bind fun d => (GL N d).map fun s => some (s, w):Option (Option (K2×Bool)))=some g) :
    (D2 g t yes no=yes ∧ ∀ φ a, TR ρ N φ t a->Region.wanted o (yielded ops a.tmps)=true)∨(D2 g t yes no=no ∧ ∀ φ a, TR ρ N φ t a->Region.wanted o (yielded ops a.tmps)=false) := by
  cases hgd:o.guard with
  | none =>
    rw [hgd] at hc
    simp only [Option.some.injEq] at hc; subst hc
    exact .inl ⟨rfl, fun φ a _ => by simp [Region.wanted, hgd]⟩
  | some jw =>
    obtain ⟨j, want⟩ := jw
    rw [hgd] at hc
    obtain ⟨d, hd, hc⟩ := Bs hc
    obtain ⟨p, hp, rfl⟩ := Ak hc
    obtain ⟨hdN, hpN⟩ := DC hp
    have e1:D2 (some (p, want)) t yes no=@V.rec (fun _ => R) (fun _ => Unit) (fun _ _ => no) (fun b => br (Bool.rec (Bool.rec true false b) b want) yes no) (fun _ _ => no) (fun _ _ _ _ _ _ => no) (fun _ _ => no) (fun _ _ => no) (fun _ => no) (fun _ => no) (fun _ _ _ => no) (fun _ _ => no) (fun o => .fail "") () (fun _ _ _ _ => ()) (Bg p t) := CY p t _
    have told:∀ φ a, TR ρ N φ t a->yielded ops a.tmps j=Ph (a.tmps.getD d undef) := fun φ a hT => by
      have hlt:d<a.tmps.size := by rw [hT.size]; exact hdN
      have h1:a.tmps.getD d undef=a.tmps[d] := by rw [Array.getD_eq_getD_getElem?, Array.getElem?_eq_getElem hlt]; rfl
      rw [h1]
      unfold yielded
      rw [hd]
      simp only [Option.bind_some, Array.getElem?_eq_getElem hlt]
      cases a.tmps[d] <;> rfl
    have nope:∀ {v:V}, Bg p t=v->(∀ φ x, As ρ φ v x->∀ b, x ≠ .bool b)->∀ φ a, TR ρ N φ t a->Region.wanted o (yielded ops a.tmps)=false := fun {v} hv hx φ a hT => by
      have := hT.at_ d p hdN hpN
      rw [hv] at this
      have hne := hx φ _ this
      simp only [Region.wanted, hgd, told φ a hT, Ok hne]
      rfl
    rw [e1] at hg ⊢
    cases hv:Bg p t with
    | bool b =>
      rw [hv] at hg
      have rd:∀ φ a, TR ρ N φ t a->Region.wanted o (yielded ops a.tmps)=(some b == some want) := fun φ a hT => by
        have := hT.at_ d p hdN hpN
        rw [hv] at this
        have hb := Ez this
        simp only [Region.wanted, hgd, told φ a hT, hb, Ph]
      cases b <;> cases want
      · exact .inl ⟨rfl, fun φ a hT => by rw [rd φ a hT]; rfl⟩
      · exact .inr ⟨rfl, fun φ a hT => by rw [rd φ a hT]; rfl⟩
      · exact .inr ⟨rfl, fun φ a hT => by rw [rd φ a hT]; rfl⟩
      · exact .inl ⟨rfl, fun φ a hT => by rw [rd φ a hT]; rfl⟩
    | oth _ => rw [hv] at hg; exact hg.elim
    | int k r => exact .inr ⟨rfl, nope hv fun φ x hr b e => by subst e; simp only [As] at hr; obtain ⟨_, h⟩ := hr; cases h⟩
    | ptr q off => exact .inr ⟨rfl, nope hv fun φ x hr b e => by subst e; obtain ⟨_, _, _, _, h⟩ := D9 hr; cases h⟩
    | sl q off len cap ex esz => exact .inr ⟨rfl, nope hv fun φ x hr b e => by subst e; obtain ⟨_, _, _, _, _, _, h, _⟩ := CW hr; cases h⟩
    | str m c => exact .inr ⟨rfl, nope hv fun φ x hr b e => by subst e; obtain ⟨_, h, _⟩ := Cy hr; cases h⟩
    | agg l => exact .inr ⟨rfl, nope hv fun φ x hr b e => by subst e; obtain ⟨_, h, _⟩ := Er hr; cases h⟩
    | nil u => exact .inr ⟨rfl, nope hv fun φ x hr b e => by subst e; have h := Cd hr; cases u <;> cases h⟩
    | map q => exact .inr ⟨rfl, nope hv fun φ x hr b e => by subst e; obtain ⟨_, _, _, _, h⟩ := GG hr; cases h⟩
    | fn f l => exact .inr ⟨rfl, nope hv fun φ x hr b e => by subst e; obtain ⟨_, h, _⟩ := Jc hr; cases h⟩
    | tup l => exact .inr ⟨rfl, nope hv fun φ x hr b e => by subst e; obtain ⟨_, h, _⟩ := Q8 hr; cases h⟩
/-- What the model does with one operation of a region. -/
def Ck (P:Program) (ops:Array Oper) (o:Oper) (a:Act) (w:World) (K:Act->World->Prop) (Q:Exit->Act->World->Prop):Prop :=
  if Region.wanted o (yielded ops a.tmps)=true then o.wp P a w K Q else K (a.put o.dst undef) w
theorem BJ {ops:Array Oper} {o:Oper} {ao:AOp} (h:Jp P N ops o=some ao):Q1 N o.dst ao.dst ∧
    (match o.guard with | none => some none | some (j, w) => ((ops[j]?).bind (·.dst)).bind fun d => (GL N d).map fun s => some (s, w):Option (Option (K2×Bool)))=some ao.g ∧
    (Fs P N o=some ao.k ∨ ∃ why, ao.k = .bad why) := by
  unfold Jp at h
  split at h
  · rename_i d g hd hg
    cases h
    refine ⟨?_, hg, ?_⟩
    · cases hdst:o.dst with
      | none => rw [hdst] at hd; simp only [Option.some.injEq] at hd; subst hd; trivial
      | some s =>
        rw [hdst] at hd
        obtain ⟨p, hp, rfl⟩ := Ak hd
        exact DC hp
    · cases hk:Fs P N o with
      | none => exact .inr ⟨_, rfl⟩
      | some k => exact .inl rfl
  · cases h
end
end Go.Ev

namespace Go.Ev
set_option linter.unusedVariables false
section
variable {P:Program} {ρ:Env} {B:Nat}
def PA:Ex->Exit
  | .nrm => .normal
  | .exit id => .exit id
  | .ret => .ret
def Nb (P:Program) (ρ:Env) (B:Nat) (f:FuncId) (p:Nq):Prop :=
  ∀ args h n v h1 n1, p args h n = .rv v h1 n1->∀ φ w (xs:Array Value), Gam ρ B h n φ w->By ρ φ args xs.toList →
    Le P f xs w fun x w' => ∃ φ', Fr h h1 φ φ' n n1 w w'∧Gam ρ B h1 n1 φ' w'∧As ρ φ' v x
def R7 (ts:Array Value):ResultVar->Sem Value
  | .tmp t => pure (ts.getD t undef)
  | .cell a t => do loadVar t (←asAddr (ts.getD a undef))
theorem PS (fn:Func) (ts:Array Value):results fn ts=(do
    let vs ←fn.results.mapM (R7 ts)
    pure (if h:vs.size=1 then vs[0] else .tuple vs)) := rfl
theorem Ro {N:Nat} {r:ResultVar} {rs:List ResultVar} {x:ARes} {xs:List ARes} {t:Regs} {h:Heap} {κ:V->R} (hc:CK P N (r::rs)=some (x::xs)) (hg:(Kw x t h κ).good) :
    CK P N rs=some xs ∧ ∃ v, Kw x t h κ=κ v ∧ ∀ φ a w n, TR ρ N φ t a->Gam ρ B h n φ w →
      ∃ X, (R7 a.tmps r).run P w = .ok X w∧As ρ φ v X := by
  cases r with
  | tmp s =>
    simp only [CK] at hc
    split at hc
    · rename_i p rs' hp hrs
      cases hc
      obtain ⟨hs, hp⟩ := DC hp
      refine ⟨hrs, Bg p t, CY p t κ, fun φ a w n hT g => ⟨a.tmps.getD s undef, rfl, hT.at_ s p hs hp⟩⟩
    · cases hc
  | cell c ty =>
    simp only [CK] at hc
    split at hc
    · rename_i p ag m rs' hp hag hm hrs
      cases hc
      obtain ⟨hs, hp⟩ := DC hp
      have e1:Kw (.cel p (if ag then some m else none)) t h κ=JP (Bg p t) fun q off => Ht q h fun cs _ _ =>
          @Option.rec Nat (fun _ => R) (Ge cs off κ) (fun m => Bh cs off m fun y => E4 y fun l => κ (.agg l)) (if ag then some m else none) := CY p t _
      rw [e1] at hg
      obtain ⟨q, off, hv, e2⟩ := Dt hg
      rw [e2] at hg
      obtain ⟨cs, sup, prev, hq, e3⟩ := Dd hg
      rw [e3] at hg
      have at1:∀ φ a w n, TR ρ N φ t a->Gam ρ B h n φ w->∃ b s tot c' e fr, φ q=some (b, s, tot)∧(asAddr (a.tmps.getD c undef)).run P w = .ok ⟨b, s+off, none⟩ w∧w.heap[b]? = some (.cells c' e fr)∧EV ρ φ cs (fun i => c'[s+i]?) := fun φ a w n hT g => by
        have := hT.at_ c p hs hp
        rw [hv] at this
        obtain ⟨b, s, tot, hφ, gx⟩ := D9 this
        obtain ⟨c', e, fr, k1, k2, k3, k4, k5⟩ := g.obj q _ b s tot hq hφ
        exact ⟨b, s, tot, c', e, fr, hφ, by rw [gx]; simp [asAddr], k1, k5⟩
      cases ag with
      | false =>
        obtain ⟨v, hv', e4⟩ := Hz (show R.good (Ge cs off κ) from hg)
        refine ⟨hrs, v, e1.trans (e2.trans (e3.trans e4)), fun φ a w n hT g => ?_⟩
        obtain ⟨b, s, tot, c', e, fr, hφ, had, k1, k5⟩ := at1 φ a w n hT g
        obtain ⟨X, hX, hr, _⟩ := k5 off v hv'
        exact ⟨X, by simp only [R7, Sem.run_bind, had, Result.andThen_ok]; simp [loadVar, Cq hag, Gs k1 hX], hr⟩
      | true =>
        obtain ⟨hle, y, hyl, hya, e4⟩ := CL (show R.good (Bh cs off m fun y => E4 y fun l => κ (.agg l)) from hg)
        obtain ⟨l, e5, hll, hla⟩ := G0 y fun l => κ (.agg l)
        refine ⟨hrs, .agg l, e1.trans (e2.trans (e3.trans (Eq.trans e4 e5))), fun φ a w n hT g => ?_⟩
        obtain ⟨b, s, tot, c', e, fr, hφ, had, k1, k5⟩ := at1 φ a w n hT g
        obtain ⟨vs, q1, q2, q3, q4⟩ := IC (He k5 hyl hya)
        have hrun := Dr (P := P) (w := w) (off := s+off) vs k1 (fun j v hj => by have := q2 j v hj; rwa [←Nat.add_assoc] at this)
        rw [q1, hyl] at hrun
        refine ⟨.agg vs.toArray, by simp only [R7, Sem.run_bind, had, Result.andThen_ok]; simp [loadVar, Cq hag, AM hm, hrun], ?_⟩
        simp only [As]
        exact ⟨_, rfl, q4 l (by rw [hll]) hla, q3⟩
    · cases hc
theorem Md {N:Nat}:∀ {rs:List ResultVar} {xs:List ARes} {t:Regs} {h:Heap} {κ:List V->R}, CK P N rs=some xs->(JI xs t h κ).good →
    ∃ vs, JI xs t h κ=κ vs ∧ ∀ φ a w n, TR ρ N φ t a->Gam ρ B h n φ w →
      ∃ Xs, (rs.mapM (R7 a.tmps)).run P w = .ok Xs w∧By ρ φ vs Xs
  | [], xs, t, h, κ, hc, hg => by
    simp only [CK, Option.some.injEq] at hc; subst hc
    exact ⟨[], rfl, fun φ a w n _ _ => ⟨[], by simp, AF.2 rfl⟩⟩
  | r::rs, xs, t, h, κ, hc, hg => by
    cases xs with
    | nil =>
      cases r with
      | tmp s => simp only [CK] at hc; split at hc <;> cases hc
      | cell c ty => simp only [CK] at hc; split at hc <;> cases hc
    | cons x xs =>
      have hg:R.good (Kw x t h fun v => JI xs t h fun vs => κ (v::vs)) := hg
      obtain ⟨hc', v, e1, H1⟩ := Ro (ρ := ρ) (B := B) hc hg
      rw [e1] at hg
      obtain ⟨vs, e2, H2⟩ := Md hc' hg
      refine ⟨v::vs, Eq.trans e1 e2, fun φ a w n hT g => ?_⟩
      obtain ⟨X, r1, r2⟩ := H1 φ a w n hT g
      obtain ⟨Xs, q1, q2⟩ := H2 φ a w n hT g
      exact ⟨X::Xs, by simp only [List.mapM_cons, Sem.run_bind, r1, q1, Result.andThen_ok, Sem.run_pure], Aw.2 ⟨X, Xs, rfl, r2, q2⟩⟩
theorem R4 {fn:Func} {xs:List ARes} {t:Regs} {h:Heap} {n:K4} {v:V} {h1:Heap} {n1:K4} (hc:CK P fn.ntmps fn.results.toList=some xs) (hr:PD xs t h n = .rv v h1 n1) :
    h1=h∧n1=n ∧ ∀ φ a w, TR ρ fn.ntmps φ t a->Gam ρ B h n φ w->∃ X, (results fn a.tmps).run P w = .ok X w∧As ρ φ v X := by
  have hg:R.good (PD xs t h n) := by rw [hr]; trivial
  obtain ⟨vs, e1, H⟩ := Md (ρ := ρ) (B := B) hc (show R.good (JI xs t h _) from hg)
  have e1:PD xs t h n=_ := e1
  rw [hr] at e1
  have run:∀ (a:Act) (w:World) (Xs:List Value), (fn.results.toList.mapM (R7 a.tmps)).run P w = .ok Xs w →
      (results fn a.tmps).run P w = .ok (if h:Xs.toArray.size=1 then Xs.toArray[0] else .tuple Xs.toArray) w := fun a w Xs h => by
    rw [PS]
    simp only [Array.mapM_eq_mapM_toList, Sem.run_bind, Sem.run_map, h, Result.andThen_ok, Sem.run_pure]
  match vs, e1, H with
  | [], e1, H =>
    cases e1
    refine ⟨rfl, rfl, fun φ a w hT g => ?_⟩
    obtain ⟨Xs, q1, q2⟩ := H φ a w n hT g
    have := AF.1 q2
    subst this
    exact ⟨_, run a w _ q1, by simp only [As]; exact ⟨#[], by simp, AF.2 rfl⟩⟩
  | [u], e1, H =>
    cases e1
    refine ⟨rfl, rfl, fun φ a w hT g => ?_⟩
    obtain ⟨Xs, q1, q2⟩ := H φ a w n hT g
    obtain ⟨X, Ys, rfl, r1, r2⟩ := Aw.1 q2
    have := AF.1 r2
    subst this
    exact ⟨_, run a w _ q1, by simpa using r1⟩
  | u::u'::us, e1, H =>
    cases e1
    refine ⟨rfl, rfl, fun φ a w hT g => ?_⟩
    obtain ⟨Xs, q1, q2⟩ := H φ a w n hT g
    have hl := B5 q2
    refine ⟨_, run a w _ q1, ?_⟩
    rw [dif_neg (by simp [hl])]
    simp only [As]
    exact ⟨_, rfl, q2⟩
theorem Mf {N:Nat}:∀ {args:List V} {k:Nat} {l:List Nat} {ps:List K2} {t:Regs} {κ:Regs->R}, (∀ i s, l[i]? = some s->s=k+i)->FW N l=some ps->(RR args ps t κ).good →
    args.length=l.length ∧ ∃ t1, RR args ps t κ=κ t1 ∧ ∀ s p, K2.ofN s=some p->Bg p t1=if k≤s then (args[s - k]?).getD (Bg p t) else Bg p t
  | [], k, l, ps, t, κ, hl, hc, hg => by
    cases l with
    | nil =>
      simp only [FW, Option.some.injEq] at hc; subst hc
      exact ⟨rfl, t, rfl, fun s p hp => by simp⟩
    | cons s l =>
      simp only [FW] at hc
      split at hc
      · cases hc; exact hg.elim
      · cases hc
  | v::args, k, l, ps, t, κ, hl, hc, hg => by
    cases l with
    | nil =>
      simp only [FW, Option.some.injEq] at hc; subst hc
      exact hg.elim
    | cons s0 l =>
      simp only [FW] at hc
      split at hc
      · rename_i p ps' hp hps
        cases hc
        obtain ⟨_, hp⟩ := DC hp
        have hs0:s0=k := by have := hl 0 s0 rfl; omega
        subst hs0
        have e1:RR (v::args) (p::ps') t κ=RR args ps' (EM p t v) κ := Nx p t v _
        rw [e1] at hg ⊢
        obtain ⟨h1, t1, e2, H⟩ := Mf (k := s0+1) (fun i s hi => by have := hl (i+1) s (by simpa using hi); omega) hps hg
        refine ⟨by simp [h1], t1, e2, fun s q hq => ?_⟩
        rw [H s q hq]
        by_cases hs:s0+1≤s
        · have hne:p≠q := fun e => by subst e; have := K2.ofN_inj hp hq; omega
          rw [if_pos hs, if_pos (by omega), Bx _ _ hne]
          have:s - s0=(s - (s0+1))+1 := by omega
          rw [this, List.getElem?_cons_succ]
        · rw [if_neg hs]
          by_cases hs':s0≤s
          · have:s=s0 := by omega
            subst this
            rw [if_pos (Nat.le_refl _)]
            rw [hp] at hq; cases hq
            simp [B7]
          · have hne:p≠q := fun e => by subst e; have := K2.ofN_inj hp hq; omega
            rw [if_neg hs', Bx _ _ hne]
      · cases hc
theorem LX {N:Nat}:∀ {l:List Nat} {ps:List K2}, FW N l=some ps->∀ s∈l, s<N
  | [], _, _, s, hs => by simp at hs
  | s0::l, ps, hc, s, hs => by
    simp only [FW] at hc
    split at hc
    · rename_i p ps' hp hps
      rcases List.mem_cons.1 hs with e | hs
      · subst e; exact (DC hp).1
      · exact LX hps s hs
    · cases hc
theorem Pq {f:FuncId} {a:AFn} (h:Kv P f=some a):∃ fn c ps rs, P.funcs[f]? = some fn∧fn.body=some c∧FW fn.ntmps (List.range (fn.params.size+fn.nfree))=some ps∧CK P fn.ntmps fn.results.toList=some rs ∧
    (fn.name == "runtime.NumGoroutine")=false∧a=⟨ps, B8 P fn.ntmps c, rs⟩ := by
  unfold Kv at h
  split at h
  · rename_i fn hf
    split at h
    · rename_i c ps rs hb hps hrs
      split at h
      · cases h
      · rename_i hn
        cases h
        exact ⟨fn, c, ps, rs, hf, hb, hps, hrs, by simpa using hn, rfl⟩
    · cases h
  · cases h
end
end Go.Ev

namespace Go.Ev
set_option linter.unusedVariables false
set_option linter.unusedSimpArgs false
section
variable {cf:CF} {t t':Regs} {h:Heap} {n:K4} {κ:KV}
def NF (t t':Regs) (l:List Opd):Prop := ∀ x∈l, ev x t=ev x t'
theorem Ed {o:Option Opd} {d:Nat} {κ:Nat->R} (hh:∀ x∈o.toList, ev x t=ev x t'):BG o t d κ=BG o t' d κ := by
  cases o with
  | none => rfl
  | some x =>
    have := hh x (by simp)
    show Db x t _=Db x t' _
    rw [AD, AD, this]
theorem I7 {l:List Opd} {κ:List V->R} (hh:NF t t' l):OA l t κ=OA l t' κ := by
  rw [FD, FD]
  congr 1
  exact List.map_congr_left hh
theorem IA {l:List Part}:∀ {z:List V} {κ:List V->R}, (∀ p∈l, ev p.x t=ev p.x t')->Dq l t z κ=Dq l t' z κ := by
  induction l with
  | nil => intro z κ _; rfl
  | cons p l ih =>
    intro z κ hh
    obtain ⟨off, size, x⟩ := p
    have e1:∀ t, Dq (⟨off, size, x⟩::l) t z κ=Eb (ev x t) fun c => Gk c fun m => br (Nat.beq m size) (L9 z off c fun z => Dq l t z κ) (.fail "") := fun t => AD x t _
    rw [e1, e1, hh ⟨off, size, x⟩ (by simp)]
    congr 1; funext c; congr 1; funext m; congr 1; congr 1; funext z
    exact ih fun p hp => hh p (by simp [hp])
theorem DJ {k:AK} (hh:NF t t' k.opds):HK k cf t h n κ=HK k cf t' h n κ := by
  cases k
  case build z ps => exact IA fun p hp => hh p.x (List.mem_map.2 ⟨p, hp, rfl⟩)
  case bslice u8 len esz z ps => exact IA fun p hp => hh p.x (List.mem_map.2 ⟨p, hp, rfl⟩)
  case mkfn f l => exact I7 hh
  case call f l => exact I7 hh
  case calld x l =>
    have h1:ev x t=ev x t' := hh x (by simp [AK.opds])
    have h2:NF t t' l := fun y hy => hh y (by simp [AK.opds, hy])
    show EQ x l cf t h n κ=EQ x l cf t' h n κ
    simp only [EQ, AD, h1]
    congr 1; funext f caps
    exact I7 h2
  case slS x lo hi =>
    have h1:ev x t=ev x t' := hh x (by simp [AK.opds])
    have h2:∀ y∈lo.toList, ev y t=ev y t' := fun y hy => hh y (by simp [AK.opds]; simp at hy; simp [hy])
    have h3:∀ y∈hi.toList, ev y t=ev y t' := fun y hy => hh y (by simp [AK.opds]; simp at hy; simp [hy])
    show Iz x lo hi cf t h n κ=Iz x lo hi cf t' h n κ
    simp only [Iz, AD, h1, Ed h2, Ed h3]
  case slL e x lo hi =>
    have h1:ev x t=ev x t' := hh x (by simp [AK.opds])
    have h2:∀ y∈lo.toList, ev y t=ev y t' := fun y hy => hh y (by simp [AK.opds]; simp at hy; simp [hy])
    have h3:∀ y∈hi.toList, ev y t=ev y t' := fun y hy => hh y (by simp [AK.opds]; simp at hy; simp [hy])
    show GO e x lo hi cf t h n κ=GO e x lo hi cf t' h n κ
    simp only [GO, QC, AD, h1, Ed h2, Ed h3]
  case slA m e x lo hi =>
    have h1:ev x t=ev x t' := hh x (by simp [AK.opds])
    have h2:∀ y∈lo.toList, ev y t=ev y t' := fun y hy => hh y (by simp [AK.opds]; simp at hy; simp [hy])
    have h3:∀ y∈hi.toList, ev y t=ev y t' := fun y hy => hh y (by simp [AK.opds]; simp at hy; simp [hy])
    show Ip m e x lo hi cf t h n κ=Ip m e x lo hi cf t' h n κ
    simp only [Ip, AD, h1, Ed h2, Ed h3]
  all_goals
    simp only [AK.opds, NF, List.mem_cons, List.not_mem_nil, or_false, forall_eq_or_imp, forall_eq] at hh
    simp only [HK, Vn, I1, OR, IG, RX, MS, Rh, D7, KA, Rk, ME, MK, Ms, M9, Ji, If, MM, Mu, ID, Gy, MH, MI, Mb, LV, LQ, Lv, R1, RS, MQ, MT, MC, Lw, Mv, LG, My, LR, J7, Mg, Je, LC, LY, QM, AD, hh]
end
end Go.Ev

namespace Go.Ev
set_option linter.unusedVariables false
section
variable {P:Program} {ρ:Env} {B N:Nat} {o:Oper} {cf:CF} {t:Regs} {h:Heap} {n:K4}
/-- What an operation that makes memory does, whatever the heap holds. -/
structure AllocOK (P:Program) (ρ:Env) (N:Nat) (o:Oper) (t:Regs) (r:K4) (v:V) (ob:Ob):Prop where
  prev:Cf ob=none
  run:∀ φ a w, TR ρ N φ t a->φ r=none->∃ x O tot w0, (execOp a.eval o).run P w = .ok (.value x) (w0.alloc O)∧(w0=w∨w0=w.drew) ∧
    As ρ (EG φ r (w.heap.size, 0, tot)) v x ∧ ∀ (φ':AT) (w':World), AT.le φ φ'->w'.heap[w.heap.size]? = some O->GE ρ φ' w' ob w.heap.size 0 tot
def GV (P:Program) (ρ:Env) (N:Nat) (o:Oper) (f:KV->R) (t:Regs) (h:Heap) (n:K4):Prop :=
  ∀ κ:KV, (f κ).good->∃ v ob n1, f κ=κ v (Af n h (some ob)) n1∧AllocOK P ρ N o t n v ob
theorem Hc {φ:AT} {cs:Cs} {c:Array Value} {e:TypeId} {fr:Nat×Nat} {b:Nat} (hl:cs.len≤c.size) (hf:WE fr c.size) (hc:EV ρ φ cs fun i => c[i]?) :
    ∀ (φ':AT) (w':World), AT.le φ φ'->w'.heap[b]? = some (.cells c e fr)->GE ρ φ' w' (.c cs false none) b 0 c.size := fun φ' w' hle hw' =>
  ⟨c, e, fr, hw', rfl, by omega, hf, G9 hle (fun i v hv => by rw [Nat.zero_add]; exact hc i v hv)⟩
theorem PH {e:TypeId} {z:List V} (ho:o.op = .alloc e) (hz:Dw P e=some z):GV P ρ N o (OR (.l z) cf t h n) t h n := by
  intro κ hg
  obtain ⟨n', hn, e1⟩ := Bp (show R.good (Di h n (.c (.l z) false none) fun h' n' => κ (.ptr n 0) h' n') from hg)
  refine ⟨_, _, _, e1, ⟨rfl, fun φ a w hT hr0 => ?_⟩⟩
  unfold Dw at hz
  cases hi:(P.info? e).bind (·.zero) with
  | none => rw [hi] at hz; cases hz
  | some zv =>
    rw [hi] at hz
    obtain ⟨hl, h1⟩ := EY (ρ := ρ) (show HQ zv.cells.toList=some z from hz) φ
    have hc := Ee hl h1
    have hob := Hc (b := w.heap.size) (e := e) (fr := (0, 0)) (c := zv.cells) (by have := B5 hl; simp only [Cs.len]; simp at this; omega) (JE _) (cs := .l z) (fun i v hv => by simpa using hc i v hv)
    refine ⟨.pointer (some ⟨w.heap.size, 0, none⟩), _, _, w, ?_, .inl rfl, Dh, hob⟩
    simp [execOp, ho, Instr.alloc, Dx hi, newVar, Fl]
theorem Pa {e:TypeId} {x:Operand} {x':Opd} (hρ:Bo ρ) (ho:o.op = .box e x) (hx:AH N x=some x'):GV P ρ N o (IG x' cf t h n) t h n := by
  intro κ hg
  have e1:IG x' cf t h n κ=Eb (ev x' t) fun l => Di h n (.c (.l l) false none) fun h' n' => κ (.ptr n 0) h' n' := by simp only [IG, AD]
  rw [e1] at hg
  obtain ⟨hc, e2⟩ := FJ hg
  rw [e2] at hg
  obtain ⟨n', hn, e3⟩ := Bp hg
  refine ⟨_, _, _, e1.trans (e2.trans e3), ⟨rfl, fun φ a w hT hr0 => ?_⟩⟩
  obtain ⟨hl, h1⟩ := Hn hρ hc (Ad hx hT)
  have hcs := Ee hl h1
  have hob := Hc (b := w.heap.size) (e := e) (fr := (0, 0)) (c := (a.eval x).cells) (by have := B5 hl; simp only [Cs.len]; simp at this; omega) (JE _) (cs := .l (ev x' t).cl) (fun i v hv => by simpa using hcs i v hv)
  refine ⟨.pointer (some ⟨w.heap.size, 0, none⟩), _, _, w, ?_, .inl rfl, Dh, hob⟩
  simp [execOp, ho, Instr.box, newVar, Fl]
theorem N0 {ty:TypeId} (ho:o.op = .makeMap ty none):GV P ρ N o (ID cf t h n) t h n := by
  intro κ hg
  obtain ⟨n', hn, e1⟩ := Bp (show R.good (Di h n (.m [] [] 0) fun h' n' => κ (.map n) h' n') from hg)
  refine ⟨_, _, _, e1, ⟨rfl, fun φ a w hT hr0 => ?_⟩⟩
  refine ⟨.map (some w.heap.size), .map #[] 0, 0, w, by simp [execOp, ho, Instr.makeMap, run_newObj], .inl rfl, ?_, fun φ' w' hle hw' => ⟨#[], hw', rfl, rfl⟩⟩
  · simp only [As]; exact ⟨w.heap.size, 0, 0, Cj _ _ _, rfl⟩
theorem Pu {src dst e:TypeId} {x:Operand} {x':Opd} (ho:o.op = .convert src dst x) (hx:AH N x=some x') (hs:P.underlying src=some .string) (hd:P.underlying dst=some (.slice e)) (he:P.underlying e=some (.int .u8)) :
    GV P ρ N o (If x' cf t h n) t h n := by
  intro κ hg
  have e1:If x' cf t h n κ=Be (ev x' t) fun m c => Di h n (.c (.b m c) false none) fun h' n' => κ (.sl n 0 m m false 1) h' n' := by simp only [If, AD]
  rw [e1] at hg
  obtain ⟨m, c, hxv, e2⟩ := Ce hg
  rw [e2] at hg
  obtain ⟨n', hn, e3⟩ := Bp hg
  refine ⟨_, _, _, e1.trans (e2.trans e3), ⟨rfl, fun φ a w hT hr0 => ?_⟩⟩
  have g1 := Ad hx hT
  rw [hxv] at g1
  obtain ⟨s, gx, hsz, hc⟩ := Cy g1
  clear g1
  subst hsz hc
  -- the capacity is drawn
  obtain ⟨cap, w1, hcap, hrun, hw1⟩:∃ cap w1, s.size≤cap∧(choose (.appendCap s.size 0 e)).run P w = .ok cap w1∧w1=w.drew := by
    refine ⟨_, _, ?_, by rw [run_choose]; simp only [Question.forced, Bool.false_eq_true, if_false]; rfl, rfl⟩
    simp only [Question.cut]; omega
  subst hw1
  let cells:Array Value := s.data.map (fun b => Value.int .u8 b.toNat)++Array.replicate (cap - s.size) (.int .u8 0)
  have hsize:cells.size=cap := by simp [cells]; omega
  have hcs:EV ρ φ (.b s.size (Au s.data.toList)) fun i => cells[i]? := fun i v hv => by
    have hi:i<s.size := Cs.lt_of_at hv
    rw [Cs.b_pos hi] at hv
    have hi':i<s.data.toList.length := by rw [C1]; exact hi
    rw [Ib _ _ hi'] at hv
    cases hv
    have hlt := s.data.toList[i].toNat_lt
    refine ⟨.int .u8 (s.data.toList[i].toNat:Nat), ?_, ?_, rfl⟩
    · have hi2:i<s.data.size := hi
      show (s.data.map (fun b => Value.int .u8 b.toNat)++Array.replicate (cap - s.size) (.int .u8 0))[i]? = _
      rw [Array.getElem?_append_left (by simpa using hi2), Array.getElem?_map, Array.getElem?_eq_getElem hi2]
      simp
    · simp only [As]
      exact ⟨by simp [Mk]; exact hlt, by rw [Ao (by simp [Hk]; exact hlt)]⟩
  have hob := Hc (b := w.heap.size) (e := e) (fr := (cap, cap+1)) (c := cells) (by simp only [Cs.len]; omega) (.inr (by rw [hsize]; exact Nat.le_refl _)) hcs
  refine ⟨.slice (some ⟨w.heap.size, 0, none⟩) s.size cap, _, _, w.drew, ?_, .inr rfl, ?_, hob⟩
  · simp only [execOp, ho, gx, convert, Sem.run_bind, run_underlying hs, run_underlying hd, run_underlying he, Result.andThen_ok, Conv.stringToBytes, hrun]
    have hrow:(newRow e (Array.map (fun b => Value.int IntKind.u8 ↑b.toNat) s.data++Array.replicate (cap - s.size) (Value.int IntKind.u8 0))).run P w.drew = .ok ⟨w.heap.size, 0, none⟩ (w.drew.alloc (.cells cells e)) := rfl
    simp only [hrow, Result.andThen_ok]
    have hsh:(w.drew.alloc (.cells cells e)).shape? w.heap.size=some (e, cap) := by
      have:(w.drew.alloc (.cells cells e)).heap[w.heap.size]? = some (.cells cells e) := by show (w.heap.push _)[w.heap.size]? = _; simp
      unfold World.shape?; rw [this]; simp [hsize]
    have hfz:(w.drew.alloc (.cells cells e)).freeze { block := w.heap.size, off := cap } 1=w.drew.alloc (.cells cells e (cap, cap+1)) := by
      exact (H6 (show (w.drew.alloc (.cells cells e)).heap[w.heap.size]? = some (.cells cells e (0, 0)) from Ik (w := w.drew))).trans (Kj (w := w.drew))
    simp only [markStringish, Sem.run_bind, run_shape, hsh, Result.andThen_ok, run_freeze, hfz, Sem.run_pure]
  · simp only [As]
    refine ⟨w.heap.size, 0, cells.size, 0, cap, Cj _ _ _, rfl, Nat.le_refl _, hcap, (fun h => by cases h), (fun _ => ⟨rfl, by rw [hsize]; omega⟩)⟩
theorem Ld {ty e:TypeId} {len s:Nat} {parts:Array (Nat×Operand)} {z:List V} {ps:List Part} {u8:Bool} (hρ:Bo ρ) (ho:o.op = .buildSlice ty len parts) (hu:P.underlying ty=some (.slice e)) (hs:Bj P e=some s) (hz:Dw P e=some z)
    (hsz:s=z.length) (h0:0<s) (hbig:len*s≤2 ^ 24) (hps:FP N (fun i => some (i*s, s)) parts.toList=some ps):GV P ρ N o (Hj u8 len s (Eh z len) ps cf t h n) t h n := by
  intro κ hg
  obtain ⟨l, hl, e1, H⟩ := FK hρ hps (show R.good (Dq ps t (Eh z len) _) from hg)
  have e1:Hj u8 len s (Eh z len) ps cf t h n κ=_ := e1
  rw [e1] at hg
  rw [D1] at hl
  obtain ⟨zv, it, hi, hzv, hr⟩ := De (ρ := ρ) hz
  have hits:it.size=s := by unfold Bj at hs; rw [hi] at hs; simpa using hs
  -- the cells, whichever way they are kept
  have fin:∀ (cs:Cs) (n':K4), n'.toN=n.toN+1->cs.len=l.length->(∀ i, cs.at i=l[i]?)->AllocOK P ρ N o t n (.sl n 0 len len true s) (.c cs false none) := fun cs n' hn hcl hca => ⟨rfl, fun φ a w hT hr0 => by
    have hzl := B5 (hr φ).1
    obtain ⟨cells, k1, k2, k3⟩ := H φ a ((Array.range (len*s)).map (zv.cells[· % zv.cells.size]!)) hT (Cr.2 ⟨by simp [D1, hsz], fun i v hv => by
        have hlt:i<len*z.length := by
          rcases Nat.lt_or_ge i (len*z.length) with h' | h'
          · exact h'
          · rw [List.getElem?_eq_none (by rw [D1]; exact h')] at hv; cases hv
        rw [Lx hlt] at hv
        obtain ⟨x, hx, hrx, _⟩ := DO (hr φ).1 (hr φ).2 (k := len*s) (by rw [hsz]; exact hlt) hv
        exact ⟨x, by rw [Array.getElem?_toList]; exact hx, hrx⟩⟩) (fun y hy => by
        obtain ⟨i, hi', rfl⟩ := List.getElem_of_mem hy
        have hlt:i<len*z.length := by simpa [hsz] using hi'
        have hzp:i % z.length<z.length := Nat.mod_lt _ (by omega)
        obtain ⟨x, hx, _, hox⟩ := DO (hr φ).1 (hr φ).2 (k := len*s) (i := i) (by rw [hsz]; exact hlt) (List.getElem?_eq_getElem hzp)
        have hx' := hx
        rw [←Array.getElem?_toList, List.getElem?_eq_getElem hi'] at hx'
        cases hx'; exact hox)
    have hcl2 := B5 k2
    have hc := Ee k2 k3
    have hob := Hc (b := w.heap.size) (e := e) (fr := (0, 0)) (c := cells) (cs := cs) (by rw [hcl]; simp at hcl2; omega) (JE _) (fun i v hv => by rw [hca i] at hv; simpa using hc i v hv)
    refine ⟨.slice (some ⟨w.heap.size, 0, none⟩) len len, _, _, w, ?_, .inl rfl, GD (Nat.le_refl _) (by simp at hcl2; rw [hcl2, hl, hsz]; exact Nat.le_refl _), hob⟩
    have hfill:Instr.fill (fun i => some (i*it.size, it.size)) ((Array.range (len*it.size)).map (zv.cells[· % zv.cells.size]!)) (parts.map fun (i, x) => (i, a.eval x)).toList=some cells := by
      rw [hits, Array.toList_map]; exact k1
    have hrun:(Instr.buildSlice ty len (parts.map fun (i, x) => (i, a.eval x))).run P w = .ok (.slice (some ⟨w.heap.size, 0, none⟩) len len) (w.alloc (.cells cells e)) := by
      by_cases h00:len*it.size=0
      · have hfill':Instr.fill (fun i => some (i*it.size, it.size)) #[] (parts.map fun (i, x) => (i, a.eval x)).toList=some cells := by
          have:(Array.range (len*it.size)).map (zv.cells[· % zv.cells.size]!) = #[] := Array.eq_empty_of_size_eq_zero (by simp [h00])
          rw [this] at hfill; exact hfill
        simp only [Instr.buildSlice, Sem.run_bind, run_underlying hu, Result.andThen_ok, AM hs]
        rw [←hits]
        simp only [h00]
        have hr0:∀ q:Array Value, (Array.range 0).map (fun x => q[x % q.size]!) = #[] := fun q => Array.eq_empty_of_size_eq_zero (by simp)
        simp [hr0]
        rw [Array.toList_map] at hfill'
        rw [show (List.map (fun x:Nat×Operand => (x.fst, a.eval x.snd)) parts.toList)=List.map (fun x => match x with | (i, x) => (i, a.eval x)) parts.toList from rfl, hfill']
        rfl
      · exact run_buildSlice w ty e len _ cells it zv hu hi hzv (by rw [hits]; omega) h00 hfill
    simp only [execOp, ho, Sem.run_bind, hrun, Result.andThen_ok, Sem.run_pure]⟩
  cases u8 with
  | true =>
    have hg':R.good (Ct l (fun m c => Di h n (.c (.b m c) false none) fun h' n' => κ (.sl n 0 len len true s) h' n') (.fail "")) := hg
    obtain ⟨m, c, e2, hml, hma, _⟩ := I9 hg'
    rw [e2] at hg'
    obtain ⟨n', hn, e3⟩ := Bp hg'
    exact ⟨_, _, _, e1.trans (Eq.trans e2 e3), fin (.b m c) n' hn hml hma⟩
  | false =>
    obtain ⟨n', hn, e3⟩ := Bp (show R.good (Di h n (.c (.l l) false none) fun h' n' => κ (.sl n 0 len len true s) h' n') from hg)
    exact ⟨_, _, _, e1.trans e3, fin (.l l) n' hn rfl fun _ => rfl⟩
theorem OU {ty e:TypeId} {l c:Operand} {l' c':Opd} {s eb:Nat} {z:List V} (ho:o.op = .makeSlice ty l c) (hl:AH N l=some l') (hc:AH N c=some c') (hu:P.underlying ty=some (.slice e)) (hs:Bj P e=some s) (hb:Fh P e=some eb) (hz:Dw P e=some z)
    (hsz:s=z.length) (h0:0<s) (hb0:0<eb):GV P ρ N o (Gy eb (Lh z) z l' c' cf t h n) t h n := by
  intro κ hg
  have e1:Gy eb (Lh z) z l' c' cf t h n κ=IW (ev l' t) fun a => IW (ev c' t) fun b => br (Nat.ble a b) (br (Nat.ble (Nat.mul eb b) 281474976710656) (Ff (Lh z) z b fun y => Di h n (.c y false none) fun h' n' => κ (.sl n 0 a b true z.length) h' n') (.fail "")) (.fail "") := by
    simp only [Gy, AD, CV]
  rw [e1] at hg
  obtain ⟨k1, a, hlv, ha, e2⟩ := Dv hg
  rw [e2] at hg
  obtain ⟨k2, b, hcv, hbv, e3⟩ := Dv hg
  rw [e3] at hg
  obtain ⟨h4, e4⟩ := Ae hg
  rw [e4] at hg
  obtain ⟨h5, e5⟩ := Ae hg
  rw [e5] at hg
  have h4 := Aa.1 h4
  have h5:eb*b≤281474976710656 := Aa.1 h5
  obtain ⟨y, e6, hyl, hya⟩ := Hw (Lh z) z b (fun y => Di h n (.c y false none) fun h' n' => κ (.sl n 0 a b true z.length) h' n') MY
  rw [e6] at hg
  obtain ⟨n', hn, e7⟩ := Bp hg
  refine ⟨_, _, _, e1.trans (e2.trans (e3.trans (e4.trans (e5.trans (e6.trans e7))))), ⟨rfl, fun φ ac w hT hr0 => ?_⟩⟩
  have g1 := Ad hl hT
  rw [hlv] at g1
  have gl := Eg ha g1
  have g2 := Ad hc hT
  rw [hcv] at g2
  have gc := Eg hbv g2
  obtain ⟨zv, it, hi, hzv, hr⟩ := De (ρ := ρ) hz
  have hits:it.size=s := by unfold Bj at hs; rw [hi] at hs; simpa using hs
  have hitb:it.bytes=eb := by unfold Fh at hb; rw [hi] at hb; simpa using hb
  have hb63:b≤281474976710656 := Nat.le_trans (Nat.le_mul_of_pos_left b hb0) h5
  have hrun := run_make (P := P) w ty e it zv hu hi hzv k1 k2 (a:Int) (b:Int) (by omega) (by omega) (by rw [hitb, ←Int.natCast_mul]; exact Int.ofNat_le.2 h5) (by omega)
  have hob := Hc (b := w.heap.size) (e := e) (fr := (0, 0)) (c := madeCells zv.cells (b*it.size)) (cs := y) (by rw [size_madeCells, hyl, hits, hsz]; exact Nat.le_refl _) (JE _) (fun i v hv => by
    have hlt := Cs.lt_of_at hv
    rw [hyl] at hlt
    rw [hya i hlt] at hv
    exact DO (hr φ).1 (hr φ).2 (k := b*it.size) (by rw [hits, hsz]; exact hlt) hv)
  refine ⟨.slice (some ⟨w.heap.size, 0, none⟩) a b, _, _, w, ?_, .inl rfl, GD h4 (by rw [size_madeCells, hits, hsz]; exact Nat.le_refl _), hob⟩
  simp only [execOp, ho, gl, gc, Sem.run_bind, hrun, Result.andThen_ok, Sem.run_pure, Int.toNat_natCast]
end
end Go.Ev

namespace Go.Ev
set_option linter.unusedVariables false
section
variable {P:Program} {ρ:Env} {B N:Nat} {o:Oper} {cf:CF} {t:Regs} {h:Heap} {n:K4}
theorem Ny {ct:Call} {b:Builtin} {args:List Opd} {k:AK} (ho:o.op = .call ct) (hb:ct.callee = .builtin b) (ha:Bw N ct.args.toList=some args) (hk:F7 P b ct.argTypes args=some k) (hsort:k.sort≤1):Bf P ρ B N o (HK k cf t h n) t h n := by
  have two:∀ {x y:Opd}, args=[x, y]->∃ x0 y0, ct.args.toList=[x0, y0]∧AH N x0=some x∧AH N y0=some y := fun {x y} e => by
    subst e
    cases hl:ct.args.toList with
    | nil => rw [hl] at ha; simp [Bw] at ha
    | cons x0 l =>
      rw [hl] at ha
      simp only [Bw] at ha
      split at ha
      · rename_i x1 xs1 h1 h2
        cases ha
        cases l with
        | nil => simp [Bw] at h2
        | cons y0 l =>
          simp only [Bw] at h2
          split at h2
          · rename_i y1 ys1 h3 h4
            cases h2
            cases l with
            | nil => exact ⟨x0, y0, rfl, h1, h3⟩
            | cons z l =>
              simp only [Bw] at h4
              split at h4 <;> cases h4
          · cases h2
      · cases ha
  have one:∀ {x:Opd} {l:List Opd}, args=x::l->∃ x0 l0, ct.args.toList=x0::l0∧AH N x0=some x := fun {x l} e => by
    subst e
    cases hl:ct.args.toList with
    | nil => rw [hl] at ha; simp [Bw] at ha
    | cons x0 l0 =>
      rw [hl] at ha
      simp only [Bw] at ha
      split at ha
      · rename_i x1 xs1 h1 h2
        cases ha
        exact ⟨x0, l0, rfl, h1⟩
      · cases ha
  unfold F7 at hk
  split at hk
  · -- len
    rename_i ty ts x l hts
    obtain ⟨x0, l0, hl, hx⟩ := one rfl
    split at hk
    · cases hk; exact Me (cf := cf) ho hb hts hl hx (by assumption)
    · cases hk; exact Mm (cf := cf) ho hb hts hl hx (by assumption)
    · cases hk; exact Ml (cf := cf) ho hb hts hl hx (by assumption)
    · cases hk
  · obtain ⟨x0, y0, hl, hx, hy⟩ := two rfl
    cases hk; exact LT (cf := cf) ho hb hl hx hy
  · obtain ⟨x0, y0, hl, hx, hy⟩ := two rfl
    cases hk; exact Mp (cf := cf) ho hb hl hx hy
  · obtain ⟨x0, y0, z0, hl, hx, hy, hz⟩ := Hi ha
    cases hk; exact Kl (cf := cf) ho hb hl hx hy hz
  · rename_i ty u x y hts
    obtain ⟨x0, y0, hl, hx, hy⟩ := two rfl
    split at hk
    · rename_i e ku ht hu
      split at hk
      · rename_i s b z h1 h2 h3
        obtain ⟨hc, rfl⟩ := B9 hk
        simp only [Bool.and_eq_true, beq_iff_eq, decide_eq_true_eq] at hc
        exact absurd hsort (by simp [AK.sort])
      · cases hk
    · rename_i e d hd ht hu
      split at hk
      · rename_i s b z h1 h2 h3
        obtain ⟨hc, rfl⟩ := B9 hk
        simp only [Bool.and_eq_true, beq_iff_eq, decide_eq_true_eq] at hc
        exact absurd hsort (by simp [AK.sort])
      · cases hk
    · cases hk
  · rename_i ty ts x y hts
    obtain ⟨x0, y0, hl, hx, hy⟩ := two rfl
    split at hk
    · rename_i e ht
      split at hk
      · rename_i s h1
        obtain ⟨hc, rfl⟩ := B9 hk
        exact absurd hsort (by simp [AK.sort])
      · cases hk
    · cases hk
  · rename_i ty ts m k' hts
    obtain ⟨x0, y0, hl, hx, hy⟩ := two rfl
    split at hk
    · rename_i kt e ht
      obtain ⟨pl, hp, rfl⟩ := Ak hk
      exact absurd hsort (by simp [AK.sort])
    · cases hk
  · rename_i ty ts x l hts
    obtain ⟨x0, l0, hl, hx⟩ := one rfl
    split at hk
    · cases hk; exact Mw (cf := cf) ho hb hts hl hx (by assumption)
    · cases hk
  · rename_i ty ts x l hts
    obtain ⟨x0, l0, hl, hx⟩ := one rfl
    split at hk
    · rename_i e ht
      split at hk
      · rename_i s z h1 h2
        obtain ⟨hc, rfl⟩ := B9 hk
        exact absurd hsort (by simp [AK.sort])
      · cases hk
    · cases hk
  · cases hk
theorem MP (hρ:Bo ρ) {k:AK} (hk:Fs P N o=some k) (hsort:k.sort≤1):Bf P ρ B N o (HK k cf t h n) t h n := by
  unfold Fs at hk
  split at hk
  · rename_i x ho
    obtain ⟨x', hx, rfl⟩ := Ak hk
    exact Iv (cf := cf) (.inl ho) hx
  · rename_i x ho
    obtain ⟨x', hx, rfl⟩ := Ak hk
    exact Iv (cf := cf) (.inr ho) hx
  · rename_i c a b ho
    split at hk
    · cases hk; exact KI (cf := cf) ho (by assumption) (by assumption) (by assumption)
    · cases hk
  · rename_i e ho
    obtain ⟨z, hz, rfl⟩ := Ak hk
    exact absurd hsort (by simp [AK.sort])
  · rename_i e x ho
    obtain ⟨x', hx, rfl⟩ := Ak hk
    exact absurd hsort (by simp [AK.sort])
  · rename_i ty parts ho
    split at hk
    · rename_i fs z hu hz
      obtain ⟨places, hpl, hk⟩ := Bs hk
      obtain ⟨ps, hps, rfl⟩ := Ak hk
      exact FH (cf := cf) hρ ho hz hps fun it zv hi hzv l => by unfold Program.built; simp only [hi, hu, hzv, hpl]
    · rename_i m e z hu hz
      obtain ⟨s, hs, hk⟩ := Bs hk
      obtain ⟨ps, hps, rfl⟩ := Ak hk
      refine FH (cf := cf) hρ ho hz hps fun it zv hi hzv l => ?_
      unfold Program.built
      unfold Bj at hs
      cases hie:P.info? e with
      | none => rw [hie] at hs; cases hs
      | some ie => rw [hie] at hs; cases hs; simp only [hi, hu, hzv, hie]
    · cases hk
  · rename_i ty len parts ho
    split at hk
    · rename_i e hu
      split at hk
      · rename_i s z hs hz
        split at hk
        · rename_i hc
          obtain ⟨ps, hps, rfl⟩ := Ak hk
          simp only [Bool.and_eq_true, beq_iff_eq, decide_eq_true_eq] at hc
          exact absurd hsort (by simp [AK.sort])
        · cases hk
      · cases hk
    · cases hk
  · rename_i ty a ho
    split at hk
    · cases hk; exact MG (cf := cf) ho (by assumption) (by assumption) (by assumption)
    · cases hk; exact OK (cf := cf) ho (by assumption) (by assumption)
    · cases hk
  · rename_i ty a x ho
    split at hk
    · cases hk; exact absurd hsort (by simp [AK.sort])
    · cases hk
  · rename_i x ho
    obtain ⟨x', hx, rfl⟩ := Ak hk
    exact Jz (cf := cf) ho hx
  · rename_i op ty x y yt ho
    split at hk
    · rename_i a b ha hb
      split at hk
      · cases hk; exact D0 (cf := cf) ho ha hb
      · cases hk; exact D0 (cf := cf) ho ha hb
      · cases hk; exact D0 (cf := cf) ho ha hb
      · cases hk; exact D0 (cf := cf) ho ha hb
      · split at hk
        · cases hk
        · rename_i hgd
          obtain ⟨pl, hp, rfl⟩ := Ak hk
          exact IP (cf := cf) (neg := false) ho ha hb hp (by simpa using hgd)
      · split at hk
        · cases hk
        · rename_i hgd
          obtain ⟨pl, hp, rfl⟩ := Ak hk
          exact IP (cf := cf) (neg := true) ho ha hb hp (by simpa using hgd)
      · cases hk; exact D0 (cf := cf) ho ha hb
    · cases hk
  · rename_i op ty x ho
    split at hk
    · cases hk; exact Lu (cf := cf) ho (by assumption)
    · cases hk; exact Mn (cf := cf) ho (by assumption)
    · cases hk; exact Lz (cf := cf) ho (by assumption)
    · cases hk
  · rename_i src dst x ho
    split at hk
    · cases hk; exact LI (cf := cf) ho (by assumption) (by assumption) (by assumption)
    · cases hk; exact LL (cf := cf) ho (by assumption) (by assumption) (by assumption)
    · rename_i e x' hs hd hx
      obtain ⟨hc, rfl⟩ := B9 hk
      exact absurd hsort (by simp [AK.sort])
    · rename_i e x' hs hd hx
      obtain ⟨hc, rfl⟩ := B9 hk
      exact Ma (cf := cf) ho hx hs hd (Ko hc)
    · rename_i e' e x' hs hd hx
      obtain ⟨hc, rfl⟩ := B9 hk
      simp only [Bool.and_eq_true] at hc
      exact absurd hsort (by simp [AK.sort])
    · cases hk
  · rename_i fn first caps ho
    split at hk
    · rename_i f l hf hl
      cases hk
      have:first = #[] := by cases first; simp_all
      subst this
      exact KN (cf := cf) ho hl
    · cases hk
  · cases hk; exact absurd hsort (by simp [AK.sort])
  · rename_i ty l c ho
    split at hk
    · rename_i e l' c' hu hl hc
      split at hk
      · rename_i s b z h1 h2 h3
        obtain ⟨hcc, rfl⟩ := B9 hk
        simp only [Bool.and_eq_true, beq_iff_eq, decide_eq_true_eq] at hcc
        exact absurd hsort (by simp [AK.sort])
      · cases hk
    · cases hk
  · rename_i ty x hi mx ho
    split at hk
    · obtain ⟨s, hs, rfl⟩ := Ak hk
      exact Mx (cf := cf) ho (by assumption) (by assumption) (by assumption) (by assumption) hs
    · cases hk
  · rename_i ty x lo hi ho
    split at hk
    · cases hk; exact Mt (cf := cf) ho (by assumption) (by assumption) (by assumption) (by assumption)
    · obtain ⟨s, hs, hk⟩ := Bs hk
      obtain ⟨hlt, rfl⟩ := B9 hk
      exact LE (cf := cf) ho (by assumption) (by assumption) (by assumption) (by assumption) hs hlt
    · obtain ⟨s, hs, rfl⟩ := Ak hk
      exact LM (cf := cf) ho (by assumption) (by assumption) (by assumption) (by assumption) hs
    · cases hk
  · rename_i s x f ho
    split at hk
    · rename_i fs x' hs hx
      obtain ⟨fd, hf, hk⟩ := Bs hk
      split at hk
      · rename_i sz hsz
        cases hk; exact LF (cf := cf) ho hx hs hf hsz
      · cases hk
    · cases hk
  · rename_i s x f ho
    split at hk
    · rename_i fs x' hs hx
      obtain ⟨fd, hf, hk⟩ := Bs hk
      split at hk
      · cases hk; exact MR (cf := cf) ho hx hs hf (by assumption) (by assumption)
      · cases hk
    · cases hk
  · rename_i ty x i ho
    split at hk
    · obtain ⟨s, hs, rfl⟩ := Ak hk
      exact M7 (cf := cf) ho (by assumption) (by assumption) (by assumption) hs
    · obtain ⟨s, hs, rfl⟩ := Ak hk
      exact MO (cf := cf) ho (by assumption) (by assumption) (by assumption) hs
    · cases hk
  · rename_i ty x i ho
    split at hk
    · cases hk; exact Mr (cf := cf) ho (by assumption) (by assumption) (by assumption)
    · split at hk
      · cases hk; exact Mc (cf := cf) ho (by assumption) (by assumption) (by assumption) (by assumption) (by assumption)
      · cases hk
    · cases hk
  · rename_i ty m k' ok ho
    split at hk
    · rename_i kt e m' k'' ht hm hk'
      split at hk
      · rename_i pl z hp hz
        obtain ⟨zz, hzz, rfl⟩ := Ak hk
        exact ON (cf := cf) ho hm hk' ht hp hz hzz
      · cases hk
    · cases hk
  · rename_i ty m k' v ho
    split at hk
    · rename_i kt e m' k'' v' ht hm hk' hv
      obtain ⟨pl, hp, rfl⟩ := Ak hk
      exact absurd hsort (by simp [AK.sort])
    · cases hk
  · rename_i ty m k' v ho
    split at hk
    · rename_i kt e m' k'' v' ht hm hk' hv
      obtain ⟨pl, hp, rfl⟩ := Ak hk
      exact absurd hsort (by simp [AK.sort])
    · cases hk
  · rename_i x i ho
    obtain ⟨x', hx, rfl⟩ := Ak hk
    exact MA (cf := cf) ho hx
  · rename_i c ho
    split at hk
    · exact Ny ho (by assumption) (by assumption) hk hsort
    · cases hk; exact absurd hsort (by simp [AK.sort])
    · obtain ⟨x', hx, rfl⟩ := Ak hk
      exact absurd hsort (by simp [AK.sort])
    · cases hk
  · cases hk
theorem L7 {ct:Call} {b:Builtin} {args:List Opd} {k:AK} (ho:o.op = .call ct) (hb:ct.callee = .builtin b) (ha:Bw N ct.args.toList=some args) (hk:F7 P b ct.argTypes args=some k) (hsort:k.sort=2):GV P ρ N o (HK k cf t h n) t h n := by
  have two:∀ {x y:Opd}, args=[x, y]->∃ x0 y0, ct.args.toList=[x0, y0]∧AH N x0=some x∧AH N y0=some y := fun {x y} e => by
    subst e
    cases hl:ct.args.toList with
    | nil => rw [hl] at ha; simp [Bw] at ha
    | cons x0 l =>
      rw [hl] at ha
      simp only [Bw] at ha
      split at ha
      · rename_i x1 xs1 h1 h2
        cases ha
        cases l with
        | nil => simp [Bw] at h2
        | cons y0 l =>
          simp only [Bw] at h2
          split at h2
          · rename_i y1 ys1 h3 h4
            cases h2
            cases l with
            | nil => exact ⟨x0, y0, rfl, h1, h3⟩
            | cons z l =>
              simp only [Bw] at h4
              split at h4 <;> cases h4
          · cases h2
      · cases ha
  have one:∀ {x:Opd} {l:List Opd}, args=x::l->∃ x0 l0, ct.args.toList=x0::l0∧AH N x0=some x := fun {x l} e => by
    subst e
    cases hl:ct.args.toList with
    | nil => rw [hl] at ha; simp [Bw] at ha
    | cons x0 l0 =>
      rw [hl] at ha
      simp only [Bw] at ha
      split at ha
      · rename_i x1 xs1 h1 h2
        cases ha
        exact ⟨x0, l0, rfl, h1⟩
      · cases ha
  unfold F7 at hk
  split at hk
  · -- len
    rename_i ty ts x l hts
    obtain ⟨x0, l0, hl, hx⟩ := one rfl
    split at hk
    · cases hk; exact absurd hsort (by simp [AK.sort])
    · cases hk; exact absurd hsort (by simp [AK.sort])
    · cases hk; exact absurd hsort (by simp [AK.sort])
    · cases hk
  · obtain ⟨x0, y0, hl, hx, hy⟩ := two rfl
    cases hk; exact absurd hsort (by simp [AK.sort])
  · obtain ⟨x0, y0, hl, hx, hy⟩ := two rfl
    cases hk; exact absurd hsort (by simp [AK.sort])
  · obtain ⟨x0, y0, z0, hl, hx, hy, hz⟩ := Hi ha
    cases hk; exact absurd hsort (by simp [AK.sort])
  · rename_i ty u x y hts
    obtain ⟨x0, y0, hl, hx, hy⟩ := two rfl
    split at hk
    · rename_i e ku ht hu
      split at hk
      · rename_i s b z h1 h2 h3
        obtain ⟨hc, rfl⟩ := B9 hk
        simp only [Bool.and_eq_true, beq_iff_eq, decide_eq_true_eq] at hc
        exact absurd hsort (by simp [AK.sort])
      · cases hk
    · rename_i e d hd ht hu
      split at hk
      · rename_i s b z h1 h2 h3
        obtain ⟨hc, rfl⟩ := B9 hk
        simp only [Bool.and_eq_true, beq_iff_eq, decide_eq_true_eq] at hc
        exact absurd hsort (by simp [AK.sort])
      · cases hk
    · cases hk
  · rename_i ty ts x y hts
    obtain ⟨x0, y0, hl, hx, hy⟩ := two rfl
    split at hk
    · rename_i e ht
      split at hk
      · rename_i s h1
        obtain ⟨hc, rfl⟩ := B9 hk
        exact absurd hsort (by simp [AK.sort])
      · cases hk
    · cases hk
  · rename_i ty ts m k' hts
    obtain ⟨x0, y0, hl, hx, hy⟩ := two rfl
    split at hk
    · rename_i kt e ht
      obtain ⟨pl, hp, rfl⟩ := Ak hk
      exact absurd hsort (by simp [AK.sort])
    · cases hk
  · rename_i ty ts x l hts
    obtain ⟨x0, l0, hl, hx⟩ := one rfl
    split at hk
    · cases hk; exact absurd hsort (by simp [AK.sort])
    · cases hk
  · rename_i ty ts x l hts
    obtain ⟨x0, l0, hl, hx⟩ := one rfl
    split at hk
    · rename_i e ht
      split at hk
      · rename_i s z h1 h2
        obtain ⟨hc, rfl⟩ := B9 hk
        exact absurd hsort (by simp [AK.sort])
      · cases hk
    · cases hk
  · cases hk
theorem Ki (hρ:Bo ρ) {k:AK} (hk:Fs P N o=some k) (hsort:k.sort=2):GV P ρ N o (HK k cf t h n) t h n := by
  unfold Fs at hk
  split at hk
  · rename_i x ho
    obtain ⟨x', hx, rfl⟩ := Ak hk
    exact absurd hsort (by simp [AK.sort])
  · rename_i x ho
    obtain ⟨x', hx, rfl⟩ := Ak hk
    exact absurd hsort (by simp [AK.sort])
  · rename_i c a b ho
    split at hk
    · cases hk; exact absurd hsort (by simp [AK.sort])
    · cases hk
  · rename_i e ho
    obtain ⟨z, hz, rfl⟩ := Ak hk
    exact PH (cf := cf) ho hz
  · rename_i e x ho
    obtain ⟨x', hx, rfl⟩ := Ak hk
    exact Pa (cf := cf) hρ ho hx
  · rename_i ty parts ho
    split at hk
    · rename_i fs z hu hz
      obtain ⟨places, hpl, hk⟩ := Bs hk
      obtain ⟨ps, hps, rfl⟩ := Ak hk
      exact absurd hsort (by simp [AK.sort])
    · rename_i m e z hu hz
      obtain ⟨s, hs, hk⟩ := Bs hk
      obtain ⟨ps, hps, rfl⟩ := Ak hk
      exact absurd hsort (by simp [AK.sort])
    · cases hk
  · rename_i ty len parts ho
    split at hk
    · rename_i e hu
      split at hk
      · rename_i s z hs hz
        split at hk
        · rename_i hc
          obtain ⟨ps, hps, rfl⟩ := Ak hk
          simp only [Bool.and_eq_true, beq_iff_eq, decide_eq_true_eq] at hc
          exact Ld (cf := cf) hρ ho hu hs hz hc.1.1 hc.1.2 hc.2 hps
        · cases hk
      · cases hk
    · cases hk
  · rename_i ty a ho
    split at hk
    · cases hk; exact absurd hsort (by simp [AK.sort])
    · cases hk; exact absurd hsort (by simp [AK.sort])
    · cases hk
  · rename_i ty a x ho
    split at hk
    · cases hk; exact absurd hsort (by simp [AK.sort])
    · cases hk
  · rename_i x ho
    obtain ⟨x', hx, rfl⟩ := Ak hk
    exact absurd hsort (by simp [AK.sort])
  · rename_i op ty x y yt ho
    split at hk
    · rename_i a b ha hb
      split at hk
      · cases hk; exact absurd hsort (by simp [AK.sort])
      · cases hk; exact absurd hsort (by simp [AK.sort])
      · cases hk; exact absurd hsort (by simp [AK.sort])
      · cases hk; exact absurd hsort (by simp [AK.sort])
      · split at hk
        · cases hk
        · rename_i hgd
          obtain ⟨pl, hp, rfl⟩ := Ak hk
          exact absurd hsort (by simp [AK.sort])
      · split at hk
        · cases hk
        · rename_i hgd
          obtain ⟨pl, hp, rfl⟩ := Ak hk
          exact absurd hsort (by simp [AK.sort])
      · cases hk; exact absurd hsort (by simp [AK.sort])
    · cases hk
  · rename_i op ty x ho
    split at hk
    · cases hk; exact absurd hsort (by simp [AK.sort])
    · cases hk; exact absurd hsort (by simp [AK.sort])
    · cases hk; exact absurd hsort (by simp [AK.sort])
    · cases hk
  · rename_i src dst x ho
    split at hk
    · cases hk; exact absurd hsort (by simp [AK.sort])
    · cases hk; exact absurd hsort (by simp [AK.sort])
    · rename_i e x' hs hd hx
      obtain ⟨hc, rfl⟩ := B9 hk
      exact Pu (cf := cf) ho hx hs hd (Ko hc)
    · rename_i e x' hs hd hx
      obtain ⟨hc, rfl⟩ := B9 hk
      exact absurd hsort (by simp [AK.sort])
    · rename_i e' e x' hs hd hx
      obtain ⟨hc, rfl⟩ := B9 hk
      simp only [Bool.and_eq_true] at hc
      exact absurd hsort (by simp [AK.sort])
    · cases hk
  · rename_i fn first caps ho
    split at hk
    · rename_i f l hf hl
      cases hk
      have:first = #[] := by cases first; simp_all
      subst this
      exact absurd hsort (by simp [AK.sort])
    · cases hk
  · cases hk; exact N0 (cf := cf) (by assumption)
  · rename_i ty l c ho
    split at hk
    · rename_i e l' c' hu hl hc
      split at hk
      · rename_i s b z h1 h2 h3
        obtain ⟨hcc, rfl⟩ := B9 hk
        simp only [Bool.and_eq_true, beq_iff_eq, decide_eq_true_eq] at hcc
        exact OU (cf := cf) ho hl hc hu h1 h2 h3 hcc.1.1 hcc.1.2 hcc.2
      · cases hk
    · cases hk
  · rename_i ty x hi mx ho
    split at hk
    · obtain ⟨s, hs, rfl⟩ := Ak hk
      exact absurd hsort (by simp [AK.sort])
    · cases hk
  · rename_i ty x lo hi ho
    split at hk
    · cases hk; exact absurd hsort (by simp [AK.sort])
    · obtain ⟨s, hs, hk⟩ := Bs hk
      obtain ⟨hlt, rfl⟩ := B9 hk
      exact absurd hsort (by simp [AK.sort])
    · obtain ⟨s, hs, rfl⟩ := Ak hk
      exact absurd hsort (by simp [AK.sort])
    · cases hk
  · rename_i s x f ho
    split at hk
    · rename_i fs x' hs hx
      obtain ⟨fd, hf, hk⟩ := Bs hk
      split at hk
      · rename_i sz hsz
        cases hk; exact absurd hsort (by simp [AK.sort])
      · cases hk
    · cases hk
  · rename_i s x f ho
    split at hk
    · rename_i fs x' hs hx
      obtain ⟨fd, hf, hk⟩ := Bs hk
      split at hk
      · cases hk; exact absurd hsort (by simp [AK.sort])
      · cases hk
    · cases hk
  · rename_i ty x i ho
    split at hk
    · obtain ⟨s, hs, rfl⟩ := Ak hk
      exact absurd hsort (by simp [AK.sort])
    · obtain ⟨s, hs, rfl⟩ := Ak hk
      exact absurd hsort (by simp [AK.sort])
    · cases hk
  · rename_i ty x i ho
    split at hk
    · cases hk; exact absurd hsort (by simp [AK.sort])
    · split at hk
      · cases hk; exact absurd hsort (by simp [AK.sort])
      · cases hk
    · cases hk
  · rename_i ty m k' ok ho
    split at hk
    · rename_i kt e m' k'' ht hm hk'
      split at hk
      · rename_i pl z hp hz
        obtain ⟨zz, hzz, rfl⟩ := Ak hk
        exact absurd hsort (by simp [AK.sort])
      · cases hk
    · cases hk
  · rename_i ty m k' v ho
    split at hk
    · rename_i kt e m' k'' v' ht hm hk' hv
      obtain ⟨pl, hp, rfl⟩ := Ak hk
      exact absurd hsort (by simp [AK.sort])
    · cases hk
  · rename_i ty m k' v ho
    split at hk
    · rename_i kt e m' k'' v' ht hm hk' hv
      obtain ⟨pl, hp, rfl⟩ := Ak hk
      exact absurd hsort (by simp [AK.sort])
    · cases hk
  · rename_i x i ho
    obtain ⟨x', hx, rfl⟩ := Ak hk
    exact absurd hsort (by simp [AK.sort])
  · rename_i c ho
    split at hk
    · exact L7 ho (by assumption) (by assumption) hk hsort
    · cases hk; exact absurd hsort (by simp [AK.sort])
    · obtain ⟨x', hx, rfl⟩ := Ak hk
      exact absurd hsort (by simp [AK.sort])
    · cases hk
  · cases hk
end
end Go.Ev

namespace Go.Ev
set_option linter.unusedVariables false
def VL (x:V):Prop := ∀ (y:V) (κ:R), (BE x y κ).good->x=y∧BE x y κ=κ
def Zg (l:List V):Prop := ∀ (m:List V) (κ:R), (BE (.agg l) (.agg m) κ).good->l=m∧BE (.agg l) (.agg m) κ=κ
theorem Tr (x:V):VL x := by
  refine @V.rec VL Zg ?_ ?_ ?_ ?_ ?_ ?_ ?_ ?_ ?_ ?_ ?_ ?_ ?_ x
  · intro k r y κ hg
    obtain ⟨j, b, rfl, e1⟩ := CI (show R.good (GS y fun j b => br (Bk k j) (br (Nat.beq r b) κ (.fail "")) (.fail "")) from hg)
    obtain ⟨h2, e2⟩ := Ae (show R.good (br (Bk k j) (br (Nat.beq r b) κ (.fail "")) (.fail "")) from hg)
    obtain ⟨h3, e3⟩ := Ae (e2 ▸ (show R.good (br (Bk k j) (br (Nat.beq r b) κ (.fail "")) (.fail "")) from hg))
    exact ⟨by rw [AL.1 h2, Nat.eq_of_beq_eq_true h3], Eq.trans e2 e3⟩
  · intro b y κ hg
    obtain ⟨c, rfl, e1⟩ := Fb (show R.good (P3 y fun c => br (Bool.rec (Bool.rec true false b) b c) κ (.fail "")) from hg)
    cases b <;> cases c <;> first | exact ⟨rfl, rfl⟩ | exact hg.elim
  · intro p off y κ hg
    obtain ⟨q, o, rfl, e1⟩ := Dt (show R.good (JP y fun q o => br (K4.beq p q) (br (Nat.beq off o) κ (.fail "")) (.fail "")) from hg)
    have hg:R.good (br (K4.beq p q) (br (Nat.beq off o) κ (.fail "")) (.fail "")) := hg
    obtain ⟨h2, e2⟩ := Ae hg
    obtain ⟨h3, e3⟩ := Ae (e2 ▸ hg)
    exact ⟨by rw [K4.beq_iff.1 h2, Nat.eq_of_beq_eq_true h3], Eq.trans e2 e3⟩
  · intro p off len cap ex esz y κ hg
    rcases Dl (show R.good (DM y (.fail "") fun q o l c e z => br (K4.beq p q) (br (and (Nat.beq off o) (and (Nat.beq len l) (and (Nat.beq cap c) (and (Bool.rec (Bool.rec true false ex) ex e) (Nat.beq esz z))))) κ (.fail "")) (.fail "")) from hg) with ⟨rfl, e1⟩ | ⟨q, o, l, c, e, z, rfl, e1⟩
    · exact hg.elim
    · have hg:R.good (br (K4.beq p q) (br (and (Nat.beq off o) (and (Nat.beq len l) (and (Nat.beq cap c) (and (Bool.rec (Bool.rec true false ex) ex e) (Nat.beq esz z))))) κ (.fail "")) (.fail "")) := hg
      obtain ⟨h2, e2⟩ := Ae hg
      obtain ⟨h3, e3⟩ := Ae (e2 ▸ hg)
      simp only [Bool.and_eq_true] at h3
      obtain ⟨a1, a2, a3, a4, a5⟩ := h3
      have a4':ex=e := by cases ex <;> cases e <;> first | rfl | cases a4
      exact ⟨by rw [K4.beq_iff.1 h2, Nat.eq_of_beq_eq_true a1, Nat.eq_of_beq_eq_true a2, Nat.eq_of_beq_eq_true a3, a4', Nat.eq_of_beq_eq_true a5], Eq.trans e2 e3⟩
  · intro n c y κ hg
    obtain ⟨m, d, rfl, e1⟩ := Ce (show R.good (Be y fun m d => br (DE n c m d) κ (.fail "")) from hg)
    have hg:R.good (br (DE n c m d) κ (.fail "")) := hg
    obtain ⟨h2, e2⟩ := Ae hg
    simp only [DE, Bool.and_eq_true] at h2
    exact ⟨by rw [Nat.eq_of_beq_eq_true h2.1, Nat.eq_of_beq_eq_true h2.2], e2⟩
  · intro l ih y κ hg
    obtain ⟨m, rfl, e1⟩ := CR (show R.good (asAgg y fun m => BE (.agg l) (.agg m) κ) from hg)
    obtain ⟨h1, h2⟩ := ih m κ hg
    exact ⟨by rw [h1], h2⟩
  · intro w y κ hg
    cases y with
    | nil u => cases w <;> cases u <;> first | exact ⟨rfl, rfl⟩ | exact hg.elim
    | _ => exact hg.elim
  · intro p y κ hg
    rcases Ec (show R.good (E2 y (.fail "") fun q => br (K4.beq p q) κ (.fail "")) from hg) with ⟨rfl, e1⟩ | ⟨q, rfl, e1⟩
    · exact hg.elim
    · obtain ⟨h2, e2⟩ := Ae (show R.good (br (K4.beq p q) κ (.fail "")) from hg)
      exact ⟨by rw [K4.beq_iff.1 h2], e2⟩
  · intro f l ih y κ hg
    obtain ⟨g, m, rfl, e1⟩ := Mh (show R.good (Pm y fun g m => br (Nat.beq f g) (BE (.agg l) (.agg m) κ) (.fail "")) from hg)
    have hg:R.good (br (Nat.beq f g) (BE (.agg l) (.agg m) κ) (.fail "")) := hg
    obtain ⟨h2, e2⟩ := Ae hg
    obtain ⟨h3, e3⟩ := ih m κ (e2 ▸ hg)
    exact ⟨by rw [Nat.eq_of_beq_eq_true h2, h3], Eq.trans e2 e3⟩
  · intro l ih y κ hg
    obtain ⟨m, rfl, e1⟩ := KZ (show R.good (KE y fun m => BE (.agg l) (.agg m) κ) from hg)
    obtain ⟨h1, h2⟩ := ih m κ hg
    exact ⟨by rw [h1], h2⟩
  · intro o y κ hg
    cases y with
    | oth u =>
      cases o <;> cases u <;> first | exact hg.elim | exact ⟨rfl, rfl⟩ | skip
      rename_i k lo hi k' lo' hi'
      have hg:R.good (br (Bk k k') (br (Nat.beq lo lo') (br (Nat.beq hi hi') κ (.fail "")) (.fail "")) (.fail "")) := hg
      obtain ⟨h2, e2⟩ := Ae hg
      obtain ⟨h3, e3⟩ := Ae (e2 ▸ hg)
      obtain ⟨h4, e4⟩ := Ae (e3 ▸ e2 ▸ hg)
      exact ⟨by rw [AL.1 h2, Nat.eq_of_beq_eq_true h3, Nat.eq_of_beq_eq_true h4], Eq.trans e2 (Eq.trans e3 e4)⟩
    | _ => exact hg.elim
  · intro m κ hg
    cases m with
    | nil => exact ⟨rfl, rfl⟩
    | cons y m => exact hg.elim
  · intro x l ihx ihl m κ hg
    cases m with
    | nil => exact hg.elim
    | cons y m =>
      have hg:R.good (BE x y (BE (.agg l) (.agg m) κ)) := hg
      obtain ⟨h1, h2⟩ := ihx y _ hg
      obtain ⟨h3, h4⟩ := ihl m κ (h2 ▸ hg)
      exact ⟨by rw [h1, h3], Eq.trans h2 h4⟩
theorem El {x y:V} {κ:R} (h:(BE x y κ).good):x=y∧BE x y κ=κ := Tr x y κ h
def FR (g:Option (K2×Bool)) (t:Regs):Prop := ∀ y n, D2 g t y n=y
def P6 (g:Option (K2×Bool)) (t:Regs):Prop := ∀ y n, D2 g t y n=n
theorem Fj {g:Option (K2×Bool)} {t:Regs} {yes no:R} (hg:(D2 g t yes no).good):FR g t∨P6 g t := by
  cases g with
  | none => exact .inl fun _ _ => rfl
  | some pw =>
    obtain ⟨p, want⟩ := pw
    have e1:∀ y n, D2 (some (p, want)) t y n=@V.rec (fun _ => R) (fun _ => Unit) (fun _ _ => n) (fun b => br (Bool.rec (Bool.rec true false b) b want) y n) (fun _ _ => n) (fun _ _ _ _ _ _ => n) (fun _ _ => n) (fun _ _ => n) (fun _ => n) (fun _ => n) (fun _ _ _ => n) (fun _ _ => n) (fun o => .fail "") () (fun _ _ _ _ => ()) (Bg p t) := fun y n => CY p t _
    rw [e1] at hg
    cases hv:Bg p t with
    | bool b => cases b <;> cases want <;> first | exact .inl fun y n => by rw [e1, hv]; rfl | exact .inr fun y n => by rw [e1, hv]; rfl
    | oth _ => rw [hv] at hg; exact hg.elim
    | _ => exact .inr fun y n => by rw [e1, hv]
theorem Nc {g:Option (K2×Bool)} {t t':Regs} (h:∀ p w, g=some (p, w)->Bg p t=Bg p t') (y n:R):D2 g t y n=D2 g t' y n := by
  cases g with
  | none => rfl
  | some pw =>
    obtain ⟨p, want⟩ := pw
    have := h p want rfl
    show HW p t _=HW p t' _
    rw [CY, CY, this]
structure St where
  t:Regs
  h0:Heap
  h1:Heap
  n:K4
def Eo (b:K4) (j:D):K4 := ⟨b.a, b.b, b.c, j⟩
def IV (cf:CF) (b:K4):Item->St->St->Prop
  | .rd _ o, s, s' => (FR o.g s.t ∧ ∃ v h n, HK o.k cf s.t s.h0 s.n JV = .rv v h n∧s'=⟨Ds o.dst s.t v, s.h0, s.h1, s.n⟩)∨(P6 o.g s.t∧s'=⟨Ds o.dst s.t Ay, s.h0, s.h1, s.n⟩)
  | .ef _ o, s, s' => (FR o.g s.t ∧ ∃ v h n, HK o.k cf s.t s.h1 s.n R.rv = .rv v h n∧s'=⟨Ds o.dst s.t v, h, h, n⟩)∨(P6 o.g s.t∧s'=⟨Ds o.dst s.t Ay, s.h1, s.h1, s.n⟩)
  | .al _ j o, s, s' => (FR o.g s.t∧A8 (Eo b j) s.h1=none ∧ ∃ v h n, HK o.k cf s.t s.h1 (Eo b j) R.rv = .rv v h n∧s'=⟨Ds o.dst s.t v, s.h0, h, s.n⟩)∨(P6 o.g s.t∧s'=⟨Ds o.dst s.t Ay, s.h0, s.h1, s.n⟩)
  | .ck _ o, s, s' => s'=s∧((FR o.g s.t ∧ ∃ p h n, o.dst=some p∧HK o.k cf s.t s.h0 s.n JV = .rv (Bg p s.t) h n)∨P6 o.g s.t)
  | .no j, s, s' => s'=s∧A8 (Eo b j) s.h0=none
  | .rn _ j o, s, s' => (FR o.g s.t ∧ ∃ ob v h n, A8 (Eo b j) s.h1=some ob∧HK o.k cf s.t (Af (Eo b j) AJ (some ob)) s.n JV = .rv v h n∧s'=⟨Ds o.dst s.t v, s.h0, s.h1, s.n⟩)∨(P6 o.g s.t∧s'=⟨Ds o.dst s.t Ay, s.h0, s.h1, s.n⟩)
theorem Ou {r:R} {κ:V->Heap->K4->R} (hg:(HN r κ).good):∃ v h n, r = .rv v h n∧HN r κ=κ v h n := by
  cases r with
  | ok e t h n => exact hg.elim
  | rv v h n => exact ⟨v, h, n, rfl, rfl⟩
  | fail w => exact hg.elim
  | both a b => exact hg.elim
theorem Sv {o:Option Ob} {κ:Ob->R} (hg:(VU o κ).good):∃ ob, o=some ob∧VU o κ=κ ob := by
  cases o with
  | none => exact hg.elim
  | some x => exact ⟨x, rfl, rfl⟩
theorem K6 {o:Option Ob} {κ:R} (hg:(Gh o κ).good):o=none∧Gh o κ=κ := by
  cases o with
  | none => exact ⟨rfl, rfl⟩
  | some x => exact hg.elim
end Go.Ev

namespace Go.Ev
set_option linter.unusedVariables false
theorem Dz {a b:Nat}:Nat.blt a b=true ↔ a<b := by unfold Nat.blt; rw [Aa]; exact Iff.rfl
theorem K2.beq_iff {p q:K2}:p.beq q=true ↔ p=q := by
  obtain ⟨a, b⟩ := p; obtain ⟨c, d⟩ := q
  simp only [K2.beq, Bool.and_eq_true, D.beq_iff, K2.mk.injEq]
  exact And.comm
theorem OZ {p:K2} {l:List K2}:Ux p l=true ↔ p∈l := by
  unfold Ux
  rw [List.any_eq_true]
  constructor
  · rintro ⟨x, hx, h⟩; rw [K2.beq_iff.1 h]; exact hx
  · intro h; exact ⟨p, h, K2.beq_iff.2 rfl⟩
namespace Plot
structure Good (p:Plot):Prop where
  dst:∀ i j d, i<p.m->j<p.m->p.dst i=some d->p.dst j=some d->i=j
  deps:∀ i d, i<p.m->d∈p.deps i->d<i
  anc:∀ i d, i<p.m->d<p.m->p.anc i d=true->d∈p.deps i ∨ ∃ c∈p.deps i, p.anc c d=true
  pos:∀ i, i<p.m->(p.sk[p.pos i]? = some (.ef i)∧p.sort i=3)∨(∃ j, p.sk[p.pos i]? = some (.al i j)∧p.sort i=2)∨((p.sk[p.pos i]? = some (.rd i) ∨ ∃ a d, p.sk[p.pos i]? = some (.rn i a d))∧p.sort i≤1)
  rn:∀ i a d, i<p.m->p.sk[p.pos i]? = some (.rn i a d)->a<p.m∧p.sk[p.pos a]? = some (.al a d)∧p.anc i a=true∧p.pos a<p.pos i∧p.bat (p.pos a)=p.bat (p.pos i)
  uniq:∀ l x i, p.sk[l]? = some x->x.ix=some i->i<p.m∧p.pos i=l
  ck:∀ l i, p.sk[l]? = some (.ck i)->i<p.m∧p.pos i<l∧p.sort i≤1
  slots:∀ i w d, i<p.m->w<p.m->p.dst w=some d->d∈p.slots i->i≠w∧((p.anc i w=true∧p.pos w<p.pos i)∨(p.anc w i=true∧p.pos i<p.pos w ∧ ∀ l, p.sk[l]? = some (.ck i)->l<p.pos w))
  eff:∀ i j, i<p.m->j<p.m->p.sort i=3->p.sort j=3->p.pos i<p.pos j->p.anc j i=true
  read:∀ i j, i<p.m->p.sort i=1->j≤p.effs.length->(∃ e, e<p.m∧p.sort e=3∧((p.anc i e=true∧j≤p.bat (p.pos e))∨(p.anc e i=true∧p.bat (p.pos e)<j)))∨(∃ a d, p.sk[p.pos i]? = some (.rn i a d)∧j≤p.bat (p.pos a)) ∨ ∃ l x, p.bat l=j∧p.sk[l]? = some x∧x.reads=some i
  al:∀ i d, i<p.m->p.sk[p.pos i]? = some (.al i d)->∀ j, j≤p.effs.length->(j≤p.bat (p.pos i)->∃ l, p.bat l=j∧p.sk[l]? = some (.no d))∧(p.bat (p.pos i)<j->∃ e, e<p.m∧p.sort e=3∧p.anc e i=true∧p.bat (p.pos e)<j)
  alD:∀ i i' d d', i<p.m->i'<p.m->i≠i'->p.sk[p.pos i]? = some (.al i d)->p.sk[p.pos i']? = some (.al i' d')->d≠d'
variable {p:Plot}
theorem Do {f:Nat->Bool}:p.all f=true ↔ ∀ i, i<p.m->f i=true := by
  unfold Plot.all; rw [List.all_eq_true]; simp
theorem EO {i:Nat} (h:i<p.m):p.tab.po.getD i 0=p.pos i := by
  simp [tab, List.getD_eq_getElem?_getD, List.getElem?_map, List.getElem?_range h]
theorem Jv {l:Nat} (h:l≤p.sk.length):p.tab.ba.getD l 0=p.bat l := by
  simp [tab, List.getD_eq_getElem?_getD, List.getElem?_map, List.getElem?_range (show l<p.sk.length+1 by omega)]
theorem Ow {e:Nat}:e∈p.effs ↔ ∃ l:Nat, p.sk[l]? = some (SI.ef e) := by
  unfold effs
  rw [List.mem_filterMap]
  constructor
  · rintro ⟨x, hx, h⟩
    obtain ⟨l, hl, rfl⟩ := List.getElem_of_mem hx
    refine ⟨l, ?_⟩
    rw [List.getElem?_eq_getElem hl]
    split at h
    · rename_i i hi; cases h; rw [hi]
    · cases h
  · rintro ⟨l, hl⟩
    exact ⟨.ef e, List.mem_of_getElem? hl, rfl⟩
theorem sk_lt {l:Nat} {x:SI} (h:p.sk[l]? = some x):l<p.sk.length := (List.getElem?_eq_some_iff.1 h).1
theorem Rq (i:Nat):SI.isCk i (.ck i)=true := by simp [SI.isCk]
theorem good_of_ok (h:p.ok=true):p.Good := by
  unfold ok at h
  simp only [Bool.and_eq_true] at h
  obtain ⟨h1, h2, h3, h4, h5, h6, h7, h8, h9⟩ := h
  have pos:∀ i, i<p.m->(p.sk[p.pos i]? = some (.ef i)∧p.sort i=3)∨(∃ j, p.sk[p.pos i]? = some (.al i j)∧p.sort i=2)∨((p.sk[p.pos i]? = some (.rd i) ∨ ∃ a d, p.sk[p.pos i]? = some (.rn i a d))∧p.sort i≤1) := fun i hi => by
    have := Do.1 h4 i hi
    rw [EO hi] at this
    split at this
    · rename_i j hj
      simp only [Bool.and_eq_true] at this
      have e := Nat.eq_of_beq_eq_true this.1
      subst e
      exact .inl ⟨hj, Nat.eq_of_beq_eq_true this.2⟩
    · rename_i j d hj
      simp only [Bool.and_eq_true] at this
      have e := Nat.eq_of_beq_eq_true this.1
      subst e
      exact .inr (.inl ⟨d, hj, Nat.eq_of_beq_eq_true this.2⟩)
    · rename_i j hj
      simp only [Bool.and_eq_true] at this
      have e := Nat.eq_of_beq_eq_true this.1
      subst e
      exact .inr (.inr ⟨.inl hj, Aa.1 this.2⟩)
    · rename_i j a d hj
      simp only [Bool.and_eq_true] at this
      have e := Nat.eq_of_beq_eq_true this.1
      subst e
      exact .inr (.inr ⟨.inr ⟨a, d, hj⟩, Aa.1 this.2.1⟩)
    · cases this
  have rn:∀ i a d, i<p.m->p.sk[p.pos i]? = some (.rn i a d)->a<p.m∧p.sk[p.pos a]? = some (.al a d)∧p.anc i a=true∧p.pos a<p.pos i∧p.bat (p.pos a)=p.bat (p.pos i) := fun i a d hi hp => by
    have := Do.1 h4 i hi
    rw [EO hi, hp] at this
    simp only [Bool.and_eq_true] at this
    obtain ⟨_, _, q1, q2, q3, q4, q5⟩ := this
    have ha:a<p.m := Dz.1 q1
    rw [EO ha] at q3 q4 q5
    have hal:p.sk[p.pos a]? = some (.al a d) := by
      split at q5
      · rename_i a' d' hq
        simp only [Bool.and_eq_true] at q5
        rw [hq, Nat.eq_of_beq_eq_true q5.1, D.beq_iff.1 q5.2]
      · cases q5
    rw [Jv (Nat.le_of_lt (sk_lt hal)), Jv (Nat.le_of_lt (sk_lt hp))] at q4
    exact ⟨ha, hal, q2, Dz.1 q3, Nat.eq_of_beq_eq_true q4⟩
  have uniq:∀ l x i, p.sk[l]? = some x->x.ix=some i->i<p.m∧p.pos i=l := fun l x i hl hx => by
    have := List.all_eq_true.1 h5 l (List.mem_range.2 (sk_lt hl))
    rw [hl] at this
    simp only [hx, Bool.and_eq_true] at this
    have hi:i<p.m := Dz.1 this.1
    have := Nat.eq_of_beq_eq_true this.2
    rw [EO hi] at this
    exact ⟨hi, this⟩
  have eft:∀ e, e∈p.tab.ef->e<p.m∧p.sort e=3∧p.sk[p.pos e]? = some (.ef e) := fun e he => by
    obtain ⟨l, hl⟩ := Ow.1 he
    obtain ⟨hm, hp⟩ := uniq l _ e hl rfl
    rcases pos e hm with ⟨q1, q2⟩ | ⟨j, q1, q2⟩ | ⟨q1 | ⟨_, _, q1⟩, q2⟩
    · exact ⟨hm, q2, q1⟩
    · rw [hp, hl] at q1; cases q1
    · rw [hp, hl] at q1; cases q1
    · rw [hp, hl] at q1; cases q1
  have efm:∀ e, e<p.m->p.sort e=3->e∈p.tab.ef := fun e he hs => by
    rcases pos e he with ⟨q1, q2⟩ | ⟨j, q1, q2⟩ | ⟨q1, q2⟩
    · exact Ow.2 ⟨_, q1⟩
    · omega
    · omega
  refine ⟨fun i j d hi hj hdi hdj => ?_, fun i d hi hd => ?_, fun i d hi hd ha => ?_, pos, rn, uniq, fun l i hl => ?_, fun i w d hi hw hd hs => ?_, fun i j hi hj hsi hsj hlt => ?_, fun i j hi hs hj => ?_, fun i d hi hd j hj => ?_, fun i i' d d' hi hi' hne hd hd' => ?_⟩
  · have := Do.1 (Do.1 h1 i hi) j hj
    simp only [hdi, hdj, Bool.or_eq_true] at this
    rcases this with h | h
    · exact Nat.eq_of_beq_eq_true h
    · rw [K2.beq_iff.2 rfl] at h; cases h
  · have := List.all_eq_true.1 (Do.1 h2 i hi) d hd
    exact Dz.1 this
  · have := Do.1 (Do.1 h3 i hi) d hd
    rw [ha] at this
    simp only [Bool.not_true, Bool.false_or, List.any_eq_true, Bool.or_eq_true] at this
    obtain ⟨c, hc, h | h⟩ := this
    · rw [←Nat.eq_of_beq_eq_true h]; exact .inl hc
    · exact .inr ⟨c, hc, h⟩
  · have := List.all_eq_true.1 h5 l (List.mem_range.2 (sk_lt hl))
    rw [hl] at this
    simp only [SI.ix, Bool.and_eq_true] at this
    have hi:i<p.m := Dz.1 this.1.1
    have h' := this.1.2
    rw [EO hi] at h'
    exact ⟨hi, Dz.1 h', Aa.1 this.2⟩
  · have := Do.1 (Do.1 h6 i hi) w hw
    have hwr:p.writes w (p.slots i)=true := by unfold writes; rw [hd]; exact OZ.2 hs
    rw [hwr] at this
    simp only [Bool.not_true, Bool.false_or, Bool.and_eq_true, Bool.or_eq_true, EO hi, EO hw, Bool.not_eq_true'] at this
    refine ⟨fun e => by subst e; simp at this, ?_⟩
    rcases this.2 with ⟨q1, q2⟩ | ⟨⟨q1, q2⟩, q3⟩
    · exact .inl ⟨q1, Dz.1 q2⟩
    · refine .inr ⟨q1, Dz.1 q2, fun l hl => ?_⟩
      have := List.all_eq_true.1 q3 l (List.mem_range.2 (sk_lt hl))
      rw [hl] at this
      simp only [Rq, Bool.not_true, Bool.false_or] at this
      exact Dz.1 this
  · have := List.all_eq_true.1 (List.all_eq_true.1 h7 i (efm i hi hsi)) j (efm j hj hsj)
    rw [EO hi, EO hj] at this
    simp only [Bool.or_eq_true, Bool.not_eq_true'] at this
    rcases this with h | h
    · rw [Dz.2 hlt] at h; cases h
    · exact h
  · have := Do.1 h8 i hi
    simp only [hs, Bool.or_eq_true] at this
    rcases this with h | h
    · simp at h
    · have := List.all_eq_true.1 h j (List.mem_range.2 (by show j<p.effs.length+1; omega))
      simp only [Bool.or_eq_true] at this
      rcases this with (h | h) | h
      · unfold never at h
        obtain ⟨e, he, h⟩ := List.any_eq_true.1 h
        obtain ⟨q1, q2, q3⟩ := eft e he
        rw [EO q1, Jv (Nat.le_of_lt (sk_lt q3))] at h
        simp only [Bool.or_eq_true, Bool.and_eq_true] at h
        refine .inl ⟨e, q1, q2, ?_⟩
        rcases h with ⟨a, b⟩ | ⟨a, b⟩
        · exact .inl ⟨a, Aa.1 b⟩
        · exact .inr ⟨a, Dz.1 b⟩
      · have hf:p.fresh p.tab i j=true := h
        unfold fresh at hf
        rw [EO hi] at hf
        split at hf
        · rename_i i' a d hq
          obtain ⟨_, hp'⟩ := uniq _ _ i' hq rfl
          have hi':i'=i := by
            rcases pos i hi with ⟨q1, _⟩ | ⟨_, q1, _⟩ | ⟨q1 | ⟨_, _, q1⟩, _⟩
            · rw [hq] at q1; cases q1
            · rw [hq] at q1; cases q1
            · rw [hq] at q1; cases q1
            · rw [hq] at q1; cases q1; rfl
          subst hi'
          obtain ⟨ha, hal, _⟩ := rn i' a d hi hq
          rw [EO ha, Jv (Nat.le_of_lt (sk_lt hal))] at hf
          exact .inr (.inl ⟨a, d, hq, Aa.1 hf⟩)
        · cases hf
      · obtain ⟨l, hl, h⟩ := List.any_eq_true.1 h
        have hl := List.mem_range.1 hl
        rw [Jv (Nat.le_of_lt hl)] at h
        simp only [Bool.and_eq_true] at h
        refine .inr (.inr ⟨l, p.sk[l], Nat.eq_of_beq_eq_true h.1, List.getElem?_eq_getElem hl, ?_⟩)
        have h2 := h.2
        rw [List.getElem?_eq_getElem hl] at h2
        simp only at h2
        split at h2
        · rename_i i' hi'; rw [hi', Nat.eq_of_beq_eq_true h2]
        · cases h2
  · have := Do.1 h9 i hi
    rw [EO hi, hd] at this
    have hsort:p.sort i=2 := by
      rcases pos i hi with ⟨q1, q2⟩ | ⟨j, q1, q2⟩ | ⟨q1 | ⟨_, _, q1⟩, q2⟩
      · rw [hd] at q1; cases q1
      · exact q2
      · rw [hd] at q1; cases q1
      · rw [hd] at q1; cases q1
    simp only [hsort, Bool.or_eq_true, Bool.and_eq_true] at this
    rcases this with h | ⟨h, _⟩
    · simp at h
    · have hp := List.all_eq_true.1 h j (List.mem_range.2 (by show j<p.effs.length+1; omega))
      rw [Jv (Nat.le_of_lt (sk_lt hd))] at hp
      constructor
      · intro hle
        rw [if_pos (Aa.2 hle)] at hp
        obtain ⟨l, hl, h⟩ := List.any_eq_true.1 hp
        have hl := List.mem_range.1 hl
        rw [Jv (Nat.le_of_lt hl)] at h
        simp only [Bool.and_eq_true] at h
        refine ⟨l, Nat.eq_of_beq_eq_true h.1, ?_⟩
        have h2 := h.2
        split at h2
        · rename_i d' hd'; rw [hd', D.beq_iff.1 h2]
        · cases h2
      · intro hlt
        rw [if_neg (fun h => by have := Aa.1 h; omega)] at hp
        obtain ⟨e, he, h⟩ := List.any_eq_true.1 hp
        obtain ⟨q1, q2, q3⟩ := eft e he
        rw [EO q1, Jv (Nat.le_of_lt (sk_lt q3))] at h
        simp only [Bool.and_eq_true] at h
        exact ⟨e, q1, q2, h.1, Dz.1 h.2⟩
  · have := Do.1 h9 i hi
    rw [EO hi, hd] at this
    have hsort:p.sort i=2 := by
      rcases pos i hi with ⟨q1, q2⟩ | ⟨j, q1, q2⟩ | ⟨q1 | ⟨_, _, q1⟩, q2⟩
      · rw [hd] at q1; cases q1
      · exact q2
      · rw [hd] at q1; cases q1
      · rw [hd] at q1; cases q1
    simp only [hsort, Bool.or_eq_true, Bool.and_eq_true] at this
    rcases this with h | ⟨_, h⟩
    · simp at h
    · have := Do.1 h i' hi'
      rw [EO hi', hd'] at this
      simp only [Bool.or_eq_true] at this
      rcases this with h | h
      · exact absurd (Nat.eq_of_beq_eq_true h) hne
      · exact fun e => by subst e; rw [D.beq_iff.2 rfl] at h; cases h
end Plot
end Go.Ev

namespace Go.Ev
set_option linter.unusedVariables false
section
variable {P:Program} {ρ:Env} {B N:Nat}
/-- A new block that a place stands for, of which the heap does not yet tell. -/
theorem Gam.hide {h:Heap} {n r:K4} {φ:AT} {w:World} (g:Gam ρ B h n φ w) (hr:φ r=none) (hn:r.toN<n.toN) (hh:A8 r h=none) (O:Obj) (tot:Nat) :
    Gam ρ B h n (EG φ r (w.heap.size, 0, tot)) (w.alloc O) where
  base := by have := g.base; rw [World.size_alloc]; omega
  glob := fun b c e fr hb => ⟨(g.glob b c e fr hb).1, by rw [Go.RowKit.Below.heap_alloc w O b (by have := (g.glob b c e fr hb).1; have := g.base; omega)]; exact (g.glob b c e fr hb).2⟩
  dom := fun q x hx => by
    rcases AI hx with ⟨rfl, _⟩ | ⟨_, hx⟩
    · exact hn
    · exact g.dom q x hx
  blk := fun q b s t hx => by
    rw [World.size_alloc]
    rcases AI hx with ⟨rfl, e⟩ | ⟨_, hx⟩
    · simp only [Prod.mk.injEq] at e; have := g.base; omega
    · have := g.blk q b s t hx; omega
  obj := fun q o b s t hq hx => by
    rcases AI hx with ⟨rfl, _⟩ | ⟨hne, hx⟩
    · rw [hh] at hq; cases hq
    · exact Cp (Go.RowKit.Below.heap_alloc w O b (g.blk q b s t hx).2) (E6 (D5 hr) (g.obj q o b s t hq hx))
  sep := fun p q o o' b s t s' t' hne hp hq hx hy => by
    rcases AI hx with ⟨rfl, _⟩ | ⟨_, hx⟩
    · rw [hh] at hp; cases hp
    · rcases AI hy with ⟨rfl, _⟩ | ⟨_, hy⟩
      · rw [hh] at hq; cases hq
      · exact g.sep p q o o' b s t s' t' hne hp hq hx hy
  sup := fun p q o o' b s t s' t' hp hpr hq hx hy => by
    rcases AI hx with ⟨rfl, _⟩ | ⟨_, hx⟩
    · rw [hh] at hp; cases hp
    · rcases AI hy with ⟨rfl, _⟩ | ⟨_, hy⟩
      · rw [hh] at hq; cases hq
      · exact g.sup p q o o' b s t s' t' hp hpr hq hx hy
theorem Fr.hide {h h1:Heap} {φ0 φ:AT} {n n1 r:K4} {w0 w:World} (f:Fr h h1 φ0 φ n n1 w0 w) (hr:φ r=none) (h1':n.toN≤r.toN) (h2:r.toN<n1.toN) (O:Obj) (tot:Nat) :
    Fr h h1 φ0 (EG φ r (w.heap.size, 0, tot)) n n1 w0 (w.alloc O) where
  ext := AT.le_trans f.ext (D5 hr)
  new := fun p x hx => by
    rcases AI hx with ⟨rfl, _⟩ | ⟨_, hx⟩
    · exact .inr ⟨h1', h2⟩
    · exact f.new p x hx
  nn := f.nn
  os := f.os
  tape := f.tape
  out := f.out
  size := by have := f.size; rw [World.size_alloc]; omega
  old := fun b hb hn => by
    rw [←f.old b hb hn]
    exact Go.RowKit.Below.heap_alloc w O b (Nat.lt_of_lt_of_le hb f.size)
  fresh := fun p b s t hx => by
    rcases AI hx with ⟨rfl, e⟩ | ⟨_, hx⟩
    · simp only [Prod.mk.injEq] at e; have := f.size; exact .inr (.inl (by omega))
    · exact f.fresh p b s t hx
  dm := f.dm
theorem Fr.drewR {h h1:Heap} {φ0 φ:AT} {n n1:K4} {w0 w:World} (f:Fr h h1 φ0 φ n n1 w0 w):Fr h h1 φ0 φ n n1 w0 w.drew := Fr.trans f Fr.drew
/-- Objects that are there are told of. -/
theorem Gam.showAll {h h':Heap} {n:K4} {φ:AT} {w:World} (g:Gam ρ B h n φ w)
    (hs:∀ q, A8 q h'=A8 q h ∨ ∃ ob bk tot, A8 q h=none∧A8 q h'=some ob∧Cf ob=none∧φ q=some (bk, 0, tot)∧GE ρ φ w ob bk 0 tot ∧ ∀ q' x y, φ q'=some (bk, x, y)->q'=q) :
    Gam ρ B h' n φ w where
  base := g.base
  glob := g.glob
  dom := g.dom
  blk := g.blk
  obj := fun q o b s t hq hx => by
    rcases hs q with e | ⟨ob, bk, tot, e1, e2, e3, e4, e5, e6⟩
    · rw [e] at hq; exact g.obj q o b s t hq hx
    · rw [e2] at hq; cases hq
      rw [e4] at hx; simp only [Option.some.injEq, Prod.mk.injEq] at hx
      obtain ⟨rfl, rfl, rfl⟩ := hx
      exact e5
  sep := fun p q o o' b s t s' t' hne hp hq hx hy => by
    rcases hs p with e | ⟨ob, bk, tot, e1, e2, e3, e4, e5, e6⟩
    · rcases hs q with e' | ⟨ob, bk, tot, e1, e2, e3, e4, e5, e6⟩
      · rw [e] at hp; rw [e'] at hq
        exact g.sep p q o o' b s t s' t' hne hp hq hx hy
      · rw [e4] at hy; simp only [Option.some.injEq, Prod.mk.injEq] at hy
        obtain ⟨rfl, rfl, rfl⟩ := hy
        exact absurd (e6 p s t hx) hne
    · rw [e4] at hx; simp only [Option.some.injEq, Prod.mk.injEq] at hx
      obtain ⟨rfl, rfl, rfl⟩ := hx
      exact absurd (e6 q s' t' hy).symm hne
  sup := fun p q o o' b s t s' t' hp hpr hq hx hy => by
    rcases hs p with e | ⟨ob, bk, tot, e1, e2, e3, e4, e5, e6⟩
    · rw [e] at hp
      rcases hs q with e' | ⟨ob, bk, tot, e1, e2, e3, e4, e5, e6⟩
      · rw [e'] at hq; exact g.sup p q o o' b s t s' t' hp hpr hq hx hy
      · rw [e4] at hy; simp only [Option.some.injEq, Prod.mk.injEq] at hy
        obtain ⟨rfl, rfl, rfl⟩ := hy
        have := e6 p s t hx
        subst this
        rw [e1] at hp; cases hp
    · rw [e2] at hp; cases hp; rw [e3] at hpr; cases hpr
theorem Fr.show {h h1 h':Heap} {φ0 φ:AT} {n n1:K4} {w0 w:World} (f:Fr h h1 φ0 φ n n1 w0 w) (hs:∀ p, φ0 p≠none->A8 p h'=A8 p h1):Fr h h' φ0 φ n n1 w0 w :=
  ⟨f.ext, f.new, f.nn, f.os, f.tape, f.out, f.size, f.old, f.fresh, fun p hp hn => by rw [hs p hp]; exact f.dm p hp hn⟩
end
end Go.Ev

namespace Go.Ev
set_option linter.unusedVariables false
section
variable {P:Program} {N:Nat} {ops:Array Oper} {os:List AOp} {p:Plot} {b:K4} {cf:CF} {st:Nat->St}
/-- A run of a plot's items. -/
structure Rn (P:Program) (N:Nat) (ops:Array Oper) (os:List AOp) (p:Plot) (cf:CF) (b:K4) (st:Nat->St):Prop where
  good:p.Good
  cops:HM P N ops ops.toList=some os
  plot:p=Co (ops.toList.map Dg) os
  step:∀ l x, p.sk[l]? = some x->IV cf b (L0 os x) (st l) (st (l+1))
theorem JW {ops:Array Oper}:∀ {l:List Oper} {os:List AOp}, HM P N ops l=some os->os.length=l.length ∧ ∀ (i:Nat) (o:Oper), l[i]? = some o->∃ ao, os[i]? = some ao∧Jp P N ops o=some ao
  | [], os, h => by simp only [HM, Option.some.injEq] at h; subst h; exact ⟨rfl, fun i o ho => by simp at ho⟩
  | o::l, os, h => by
    simp only [HM] at h
    split at h
    · rename_i ao al ho hl
      cases h
      obtain ⟨h1, h2⟩ := JW hl
      refine ⟨by simp [h1], fun i o' ho' => ?_⟩
      cases i with
      | zero => simp at ho'; subst ho'; exact ⟨ao, rfl, ho⟩
      | succ i => simpa using h2 i o' (by simpa using ho')
    · cases h
namespace Rn
theorem size (r:Rn P N ops os p cf b st):p.m=ops.size := by
  have := (JW r.cops).1
  rw [r.plot]; simp [Plot.m, Co, this]
theorem get (r:Rn P N ops os p cf b st) {i:Nat} (hi:i<p.m):∃ o ao, ops[i]? = some o∧os[i]? = some ao∧os.getD i Cm=ao∧Jp P N ops o=some ao∧p.sort i=ao.k.sort∧p.dst i=ao.dst∧p.slots i=ao.slots∧p.deps i=Dg o := by
  have hs := r.size
  have hi':i<ops.size := by omega
  obtain ⟨ao, h1, h2⟩ := (JW r.cops).2 i ops[i] (by rw [Array.getElem?_toList]; exact Array.getElem?_eq_getElem hi')
  refine ⟨ops[i], ao, Array.getElem?_eq_getElem hi', h1, by rw [List.getD_eq_getElem?_getD, h1]; rfl, h2, ?_, ?_, ?_, ?_⟩
  · rw [r.plot]; simp [Plot.sort, Co, List.getD_eq_getElem?_getD, h1]
  · rw [r.plot]; simp [Plot.dst, Co, List.getD_eq_getElem?_getD, h1]
  · rw [r.plot]; simp [Plot.slots, Co, List.getD_eq_getElem?_getD, h1]
  · rw [r.plot]; simp [Plot.deps, Co, List.getD_eq_getElem?_getD, Array.getElem?_eq_getElem hi']
theorem dst_eq (r:Rn P N ops os p cf b st) (i:Nat):p.dst i=(os.getD i Cm).dst := by
  rw [r.plot]
  simp only [Plot.dst, Co, List.getD_eq_getElem?_getD, List.getElem?_map]
  cases os[i]? <;> rfl
theorem writes (r:Rn P N ops os p cf b st) {l:Nat} {x:SI} (hx:p.sk[l]? = some x) :
    (∀ i, x.ix=some i->∃ v, (st (l+1)).t=Ds (p.dst i) (st l).t v)∧(x.ix=none->st (l+1)=st l) := by
  have hs := r.step l x hx
  cases x with
  | rd i =>
    refine ⟨fun i' hi => ?_, fun h => by cases h⟩
    cases hi
    rw [r.dst_eq]
    rcases hs with ⟨_, v, h, n, _, e⟩ | ⟨_, e⟩ <;> rw [e] <;> exact ⟨_, rfl⟩
  | ef i =>
    refine ⟨fun i' hi => ?_, fun h => by cases h⟩
    cases hi
    rw [r.dst_eq]
    rcases hs with ⟨_, v, h, n, _, e⟩ | ⟨_, e⟩ <;> rw [e] <;> exact ⟨_, rfl⟩
  | al i j =>
    refine ⟨fun i' hi => ?_, fun h => by cases h⟩
    cases hi
    rw [r.dst_eq]
    rcases hs with ⟨_, _, v, h, n, _, e⟩ | ⟨_, e⟩ <;> rw [e] <;> exact ⟨_, rfl⟩
  | ck i => exact ⟨fun i' hi => (by cases hi), fun _ => hs.1⟩
  | no j => exact ⟨fun i' hi => (by cases hi), fun _ => hs.1⟩
  | rn i a j =>
    refine ⟨fun i' hi => ?_, fun h => by cases h⟩
    cases hi
    rw [r.dst_eq]
    rcases hs with ⟨_, ob, v, h, n, _, _, e⟩ | ⟨_, e⟩ <;> rw [e] <;> exact ⟨_, rfl⟩
theorem keep (r:Rn P N ops os p cf b st) {q:K2} {l1:Nat}:∀ {l2:Nat}, l1≤l2->l2≤p.sk.length->(∀ l, l1≤l->l<l2->∀ x i, p.sk[l]? = some x->x.ix=some i->p.dst i≠some q)->Bg q (st l1).t=Bg q (st l2).t := by
  intro l2 h12
  induction l2 with
  | zero =>
    intro _ _; have:l1=0 := by omega
    subst this; rfl
  | succ l2 ih =>
    intro hL hw
    by_cases e:l1=l2+1
    · subst e; rfl
    · rw [ih (by omega) (by omega) fun l h1 h2 => hw l h1 (by omega)]
      have hx:p.sk[l2]? = some p.sk[l2] := List.getElem?_eq_getElem (by omega)
      obtain ⟨w1, w2⟩ := r.writes hx
      cases hix:(p.sk[l2]'(by omega)).ix with
      | none => rw [w2 hix]
      | some i =>
        obtain ⟨v, hv⟩ := w1 i hix
        have hne := hw l2 (by omega) (by omega) _ i hx hix
        rw [hv]
        cases hd:p.dst i with
        | none => rfl
        | some d =>
          have:d≠q := fun e => hne (by rw [hd, e])
          exact (Bx _ _ this).symm
/-- A register with a writer: its last value from there on, its first one up to there. -/
theorem reg_after (r:Rn P N ops os p cf b st) {q:K2} {w l:Nat} (hw:w<p.m) (hd:p.dst w=some q) (h1:p.pos w<l) (h2:l≤p.sk.length):Bg q (st l).t=Bg q (st p.sk.length).t :=
  r.keep h2 (Nat.le_refl _) fun l' h3 h4 x i hx hi e => by
    obtain ⟨hm, hp⟩ := r.good.uniq l' x i hx hi
    have := r.good.dst i w q hm hw e hd
    subst this; omega
theorem reg_before (r:Rn P N ops os p cf b st) {q:K2} {w l:Nat} (hw:w<p.m) (hd:p.dst w=some q) (h1:l≤p.pos w) (h2:l≤p.sk.length):Bg q (st l).t=Bg q (st 0).t :=
  (r.keep (Nat.zero_le _) h2 fun l' h3 h4 x i hx hi e => by
    obtain ⟨hm, hp⟩ := r.good.uniq l' x i hx hi
    have := r.good.dst i w q hm hw e hd
    subst this; omega).symm
theorem reg_free (r:Rn P N ops os p cf b st) {q:K2} {l:Nat} (hd:∀ w, w<p.m->p.dst w≠some q) (h2:l≤p.sk.length):Bg q (st l).t=Bg q (st 0).t :=
  (r.keep (Nat.zero_le _) h2 fun l' h3 h4 x i hx hi e => hd i (r.good.uniq l' x i hx hi).1 e).symm
theorem bat_succ {l:Nat} {x:SI} (hx:p.sk[l]? = some x):p.bat (l+1)=p.bat l+if x.isEf then 1 else 0 := by
  unfold Plot.bat
  rw [List.take_add_one, hx]
  simp only [Option.toList_some, List.filter_append, List.length_append]
  cases hx:x.isEf <;> simp [hx]
theorem bat_mono {l1 l2:Nat} (h:l1≤l2) (h2:l2≤p.sk.length):p.bat l1≤p.bat l2 := by
  induction l2 with
  | zero =>
    have:l1=0 := by omega
    subst this; exact Nat.le_refl _
  | succ l2 ih =>
    by_cases e:l1=l2+1
    · subst e; exact Nat.le_refl _
    · have := ih (by omega) (by omega)
      rw [bat_succ (List.getElem?_eq_getElem (show l2<p.sk.length by omega))]
      omega
theorem same_batch (r:Rn P N ops os p cf b st) {l1 l2:Nat} (h:l1≤l2) (h2:l2≤p.sk.length) (hb:p.bat l1=p.bat l2):(st l1).h0=(st l2).h0∧(st l1).n=(st l2).n := by
  induction l2 with
  | zero =>
    have:l1=0 := by omega
    subst this; exact ⟨rfl, rfl⟩
  | succ l2 ih =>
    by_cases e:l1=l2+1
    · subst e; exact ⟨rfl, rfl⟩
    · have hx:p.sk[l2]? = some p.sk[l2] := List.getElem?_eq_getElem (by omega)
      have h3 := bat_mono (p := p) (show l1≤l2 by omega) (by omega)
      have h4 := bat_succ hx
      have hne:(p.sk[l2]'(by omega)).isEf=false := by
        cases hh:(p.sk[l2]'(by omega)).isEf with
        | false => rfl
        | true => rw [hh] at h4; simp at h4; omega
      obtain ⟨e1, e2⟩ := ih (by omega) (by omega) (by rw [hne] at h4; simp at h4; omega)
      have hs := r.step l2 _ hx
      have:(st (l2+1)).h0=(st l2).h0∧(st (l2+1)).n=(st l2).n := by
        revert hs hne
        generalize (p.sk[l2]'(by omega))=x
        intro hne hs
        cases x with
        | rd i => rcases hs with ⟨_, v, h, n, _, e⟩ | ⟨_, e⟩ <;> rw [e] <;> exact ⟨rfl, rfl⟩
        | ef i => cases hne
        | al i j => rcases hs with ⟨_, _, v, h, n, _, e⟩ | ⟨_, e⟩ <;> rw [e] <;> exact ⟨rfl, rfl⟩
        | ck i => rw [hs.1]; exact ⟨rfl, rfl⟩
        | no j => rw [hs.1]; exact ⟨rfl, rfl⟩
        | rn i a j => rcases hs with ⟨_, ob, v, h, n, _, _, e⟩ | ⟨_, e⟩ <;> rw [e] <;> exact ⟨rfl, rfl⟩
      exact ⟨e1.trans this.1.symm, e2.trans this.2.symm⟩
theorem ef_at {l j:Nat} (hl:l≤p.sk.length) (h:j<p.bat l):∃ l' e, l'<l∧p.sk[l']? = some (SI.ef e)∧p.bat l'=j := by
  induction l with
  | zero => simp [Plot.bat] at h
  | succ l ih =>
    have hx:p.sk[l]? = some p.sk[l] := List.getElem?_eq_getElem (by omega)
    have h4 := bat_succ hx
    by_cases hj:j<p.bat l
    · obtain ⟨l', e, h1, h2, h3⟩ := ih (by omega) hj
      exact ⟨l', e, by omega, h2, h3⟩
    · revert h4 hx
      generalize (p.sk[l]'(by omega))=x
      intro hx h4
      cases x with
      | ef e => simp [SI.isEf] at h4; exact ⟨l, e, by omega, hx, by omega⟩
      | _ => simp [SI.isEf] at h4; omega
end Rn
end
end Go.Ev

namespace Go.Ev
set_option linter.unusedVariables false
section
variable {P:Program} {ρ:Env} {B N:Nat} {ops:Array Oper} {os:List AOp} {p:Plot} {b:K4} {cf:CF} {st:Nat->St}
theorem CG {o:AOp} {t t':Regs} (h:∀ q∈o.slots, Bg q t=Bg q t'):NF t t' o.k.opds ∧ ∀ y n, D2 o.g t y n=D2 o.g t' y n := by
  refine ⟨fun x hx => ?_, fun y n => Nc (fun q w hg => h q ?_) y n⟩
  · cases x with
    | c v => rfl
    | t q => exact h q (List.mem_append_left _ (List.mem_filterMap.2 ⟨.t q, hx, rfl⟩))
  · refine List.mem_append_right _ ?_
    rw [hg]; simp
theorem IH (j:D) (hb:b.d = .d0):(Eo b j).toN=b.toN+j.toN := by
  obtain ⟨a, c, d, e⟩ := b
  simp only at hb; subst hb
  simp [Eo, K4.toN, D.toN]
theorem JQ {i j:D} (h:Eo b i=Eo b j):i=j := by simp only [Eo, K4.mk.injEq, true_and] at h; exact h
/-- The registers when a set of operations is done. -/
def Si (p:Plot) (st:Nat->St) (S:Nat->Bool) (t:Regs):Prop :=
  ∀ q, (∀ w, w<p.m->p.dst w=some q->(S w=true->Bg q t=Bg q (st p.sk.length).t)∧(S w=false->Bg q t=Bg q (st 0).t)) ∧
    ((∀ w, w<p.m->p.dst w≠some q)->Bg q t=Bg q (st 0).t)
namespace Rn
theorem agree (r:Rn P N ops os p cf b st) {S:Nat->Bool} {t:Regs} (hR:Si p st S t) {i:Nat} (hi:i<p.m) (ha:∀ d, d<p.m->p.anc i d=true->S d=true) (hd:∀ w, w<p.m->p.anc w i=true->S w=false)
    {l:Nat} (hl:l=p.pos i∨p.sk[l]? = some (.ck i)):∀ q∈p.slots i, Bg q t=Bg q (st l).t := by
  have hL:l<p.sk.length∧p.pos i≤l := by
    rcases hl with rfl | hl
    · rcases r.good.pos i hi with ⟨h, _⟩ | ⟨j, h, _⟩ | ⟨h | ⟨_, _, h⟩, _⟩ <;> exact ⟨Plot.sk_lt h, Nat.le_refl _⟩
    · exact ⟨Plot.sk_lt hl, Nat.le_of_lt (r.good.ck l i hl).2.1⟩
  intro q hq
  by_cases hw:∃ w, w<p.m∧p.dst w=some q
  · obtain ⟨w, hw, hdw⟩ := hw
    obtain ⟨hne, h | ⟨h1, h2, h3⟩⟩ := r.good.slots i w q hi hw hdw hq
    · rw [((hR q).1 w hw hdw).1 (ha w hw h.1)]
      exact (r.reg_after hw hdw (by omega) (by omega)).symm
    · rw [((hR q).1 w hw hdw).2 (hd w hw h1)]
      refine (r.reg_before hw hdw ?_ (by omega)).symm
      rcases hl with rfl | hl
      · omega
      · exact Nat.le_of_lt (h3 l hl)
  · have hn:∀ w, w<p.m->p.dst w≠some q := fun w h1 h2 => hw ⟨w, h1, h2⟩
    rw [(hR q).2 hn]
    exact (r.reg_free hn (by omega)).symm
/-- After an operation is done, its register holds its last value. -/
theorem regS_put (r:Rn P N ops os p cf b st) {S:Nat->Bool} {t:Regs} (hR:Si p st S t) {i:Nat} (hi:i<p.m) {v:V} (hv:(st (p.pos i+1)).t=Ds (p.dst i) (st (p.pos i)).t v) :
    Si p st (fun j => S j || Nat.beq i j) (Ds (p.dst i) t v) := by
  have hL:p.pos i<p.sk.length := by
    rcases r.good.pos i hi with ⟨h, _⟩ | ⟨j, h, _⟩ | ⟨h | ⟨_, _, h⟩, _⟩ <;> exact Plot.sk_lt h
  have hbeq:Nat.beq i i=true := by simp
  cases hd:p.dst i with
  | none =>
    intro q
    refine ⟨fun w hw hdw => ?_, (hR q).2⟩
    have hne:i≠w := fun e => by subst e; rw [hd] at hdw; cases hdw
    have hb:Nat.beq i w=false := by cases h:Nat.beq i w with
      | false => rfl
      | true => exact absurd (Nat.eq_of_beq_eq_true h) hne
    simp only [hb, Bool.or_false]
    exact (hR q).1 w hw hdw
  | some d =>
    rw [hd] at hv
    have last:Bg d (st p.sk.length).t=v := by
      rw [←r.reg_after hi hd (l := p.pos i+1) (by omega) (by omega), hv]
      exact B7 _ _ _
    intro q
    by_cases e:d=q
    · subst e
      refine ⟨fun w hw hdw => ?_, fun h => absurd hd (h i hi)⟩
      have := r.good.dst w i d hw hi hdw hd
      subst this
      refine ⟨fun _ => ?_, fun h => by simp at h⟩
      rw [last]; exact B7 _ _ _
    · have e1:Bg q (Ds (some d) t v)=Bg q t := Bx _ _ e
      rw [e1]
      refine ⟨fun w hw hdw => ?_, (hR q).2⟩
      have hne:i≠w := fun e' => by subst e'; rw [hd] at hdw; cases hdw; exact e rfl
      have hb:Nat.beq i w=false := by cases h:Nat.beq i w with
        | false => rfl
        | true => exact absurd (Nat.eq_of_beq_eq_true h) hne
      simp only [hb, Bool.or_false]
      exact (hR q).1 w hw hdw
theorem al_step (r:Rn P N ops os p cf b st) (hρ:Bo ρ) {i:Nat} {d:D} (hi:i<p.m) (hp:p.sk[p.pos i]? = some (.al i d)) :
    (FR (os.getD i Cm).g (st (p.pos i)).t∧A8 (Eo b d) (st (p.pos i)).h1=none ∧ ∃ v ob n, HK (os.getD i Cm).k cf (st (p.pos i)).t (st (p.pos i)).h1 (Eo b d) R.rv = .rv v (Af (Eo b d) (st (p.pos i)).h1 (some ob)) n ∧
        st (p.pos i+1)=⟨Ds (p.dst i) (st (p.pos i)).t v, (st (p.pos i)).h0, Af (Eo b d) (st (p.pos i)).h1 (some ob), (st (p.pos i)).n⟩) ∨
    (P6 (os.getD i Cm).g (st (p.pos i)).t∧st (p.pos i+1)=⟨Ds (p.dst i) (st (p.pos i)).t Ay, (st (p.pos i)).h0, (st (p.pos i)).h1, (st (p.pos i)).n⟩) := by
  have hs := r.step _ _ hp
  obtain ⟨o, ao, h1, h2, h3, h4, h5, h6, h7, h8⟩ := r.get hi
  have hsort:p.sort i=2 := by
    rcases r.good.pos i hi with ⟨h, _⟩ | ⟨j, h, hh⟩ | ⟨h | ⟨_, _, h⟩, _⟩
    · rw [hp] at h; cases h
    · exact hh
    · rw [hp] at h; cases h
    · rw [hp] at h; cases h
  rw [r.dst_eq]
  rcases hs with ⟨hy, hn, v, h, n, e1, e2⟩ | ⟨hn, e2⟩
  · refine .inl ⟨hy, hn, ?_⟩
    rw [h3] at e1 e2 ⊢
    have hk:Fs P N o=some ao.k := by
      rcases (BJ h4).2.2 with hk | ⟨why, hk⟩
      · exact hk
      · rw [h5, hk] at hsort; cases hsort
    obtain ⟨v', ob, n', e3, _⟩ := Ki (P := P) (ρ := ρ) (N := N) (cf := cf) (t := (st (p.pos i)).t) (h := (st (p.pos i)).h1) (n := Eo b d) hρ hk (by rw [←h5]; exact hsort) R.rv (by rw [e1]; trivial)
    rw [e1] at e3
    cases e3
    exact ⟨_, _, _, e1, e2⟩
  · exact .inr ⟨hn, e2⟩
end Rn
end
end Go.Ev

namespace Go.Ev
set_option linter.unusedVariables false
section
variable {P:Program} {ρ:Env} {B N:Nat} {ops:Array Oper} {os:List AOp} {p:Plot} {b:K4} {cf:CF} {st:Nat->St}
/-- An operation that Lr memory in its batch, told of at place q. -/
def XN (os:List AOp) (p:Plot) (b:K4) (st:Nat->St) (l:Nat) (q:K4):Prop :=
  ∃ i d, i<p.m∧p.sk[p.pos i]? = some (.al i d)∧p.pos i<l∧p.bat (p.pos i)=p.bat l∧q=Eo b d∧FR (os.getD i Cm).g (st (p.pos i)).t∧A8 q (st l).h1=A8 q (st (p.pos i+1)).h1
namespace Rn
theorem h1_at (r:Rn P N ops os p cf b st) (hρ:Bo ρ) (h0:(st 0).h1=(st 0).h0) (q:K4):∀ {l:Nat}, l≤p.sk.length->A8 q (st l).h1=A8 q (st l).h0∨XN os p b st l q := by
  intro l
  induction l with
  | zero => intro _; rw [h0]; exact .inl rfl
  | succ l ih =>
    intro hL
    have ih := ih (by omega)
    cases hx:p.sk[l]? with
    | none => rw [List.getElem?_eq_none_iff] at hx; omega
    | some x =>
      have hs := r.step l x hx
      have hb := bat_succ hx
      -- nothing has moved
      have still:(st (l+1)).h1=(st l).h1->(st (l+1)).h0=(st l).h0->x.isEf=false->A8 q (st (l+1)).h1=A8 q (st (l+1)).h0∨XN os p b st (l+1) q := fun e1 e0 hne => by
        rw [hne] at hb; simp at hb
        rcases ih with h | ⟨i, d, a1, a2, a3, a4, a5, a6, a7⟩
        · rw [e1, e0]; exact .inl h
        · exact .inr ⟨i, d, a1, a2, by omega, by rw [hb]; exact a4, a5, a6, by rw [e1]; exact a7⟩
      cases x with
      | rd i => rcases hs with ⟨_, v, h, n, _, e⟩ | ⟨_, e⟩ <;> exact still (by rw [e]) (by rw [e]) rfl
      | ef i => rcases hs with ⟨_, v, h, n, _, e⟩ | ⟨_, e⟩ <;> (rw [e]; exact .inl rfl)
      | ck i => exact still (by rw [hs.1]) (by rw [hs.1]) rfl
      | no j => exact still (by rw [hs.1]) (by rw [hs.1]) rfl
      | rn i a j => rcases hs with ⟨_, ob, v, h, n, _, _, e⟩ | ⟨_, e⟩ <;> exact still (by rw [e]) (by rw [e]) rfl
      | al i d =>
        obtain ⟨hm, hp⟩ := r.good.uniq l _ i hx rfl
        subst hp
        rcases r.al_step hρ hm hx with ⟨hy, hn, v, ob, n, e1, e2⟩ | ⟨hn, e2⟩
        · by_cases hq:Eo b d=q
          · refine .inr ⟨i, d, hm, hx, by omega, by rw [hb]; simp [SI.isEf], hq.symm, hy, rfl⟩
          · have e3:A8 q (st (p.pos i+1)).h1=A8 q (st (p.pos i)).h1 := by rw [e2]; exact A7 _ _ hq
            have e4:(st (p.pos i+1)).h0=(st (p.pos i)).h0 := by rw [e2]
            have hb':p.bat (p.pos i+1)=p.bat (p.pos i) := by rw [hb]; simp [SI.isEf]
            rcases ih with h | ⟨i', d', a1, a2, a3, a4, a5, a6, a7⟩
            · rw [e3, e4]; exact .inl h
            · exact .inr ⟨i', d', a1, a2, by omega, by rw [hb']; exact a4, a5, a6, by rw [e3]; exact a7⟩
        · exact still (by rw [e2]) (by rw [e2]) rfl
/-- What an operation that Lr memory Lr. -/
theorem Lr (r:Rn P N ops os p cf b st) (hρ:Bo ρ) {i:Nat} {d:D} (hi:i<p.m) (hp:p.sk[p.pos i]? = some (.al i d)) (hy:FR (os.getD i Cm).g (st (p.pos i)).t):∃ ob, A8 (Eo b d) (st (p.pos i+1)).h1=some ob := by
  rcases r.al_step hρ hi hp with ⟨_, hn, v, ob, n, e1, e2⟩ | ⟨hn, e2⟩
  · exact ⟨ob, by rw [e2]; exact A6 _ _ _⟩
  · have := (hy (.fail "") (.ok .nrm Fi AJ b)).symm.trans (hn _ _)
    cases this
end Rn
/-- Something in it makes memory. -/
def Plot.HasAl (p:Plot):Prop := ∃ i d, i<p.m∧p.sk[p.pos i]? = some (.al i d)
/-- The state of a L0 run, some of the operations done. -/
structure Inv (P:Program) (ρ:Env) (B N:Nat) (os:List AOp) (p:Plot) (b:K4) (st:Nat->St) (h:Heap) (φ0:AT) (n:K4) (w0:World) (S:Nat->Bool) (a:Act) (w:World) (l:Nat) (φ:AT):Prop where
  le:l≤p.sk.length
  closed:∀ i d, i<p.m->S i=true->d∈p.deps i->S d=true
  effs:∀ e, e<p.m->p.sort e=3->(S e=true ↔ p.bat (p.pos e)<p.bat l)
  regs:∃ t, Si p st S t∧TR ρ N φ t a
  gam:Gam ρ B (st l).h0 (st l).n φ w
  fr:Fr h (st l).h0 φ0 φ n (st l).n w0 w
  room:p.HasAl->b.toN+16≤(st l).n.toN
  kept:∀ i d, i<p.m->p.sk[p.pos i]? = some (.al i d)->p.bat l≤p.bat (p.pos i)->FR (os.getD i Cm).g (st (p.pos i)).t->S i=true →
    ∃ bk tot ob, φ (Eo b d)=some (bk, 0, tot)∧A8 (Eo b d) (st (p.pos i+1)).h1=some ob∧Cf ob=none∧GE ρ φ w ob bk 0 tot ∧ ∀ q x y, φ q=some (bk, x, y)->q=Eo b d
  free:∀ i d, i<p.m->p.sk[p.pos i]? = some (.al i d)->S i=false->φ (Eo b d)=none
end
end Go.Ev

namespace Go.Ev
set_option linter.unusedVariables false
section
variable {P:Program} {ρ:Env} {B N:Nat} {ops:Array Oper} {os:List AOp} {p:Plot} {b:K4} {cf:CF} {st:Nat->St} {h:Heap} {φ0:AT} {n:K4} {w0:World}
theorem Yo {k:AK} (hs:k.sort=0) {t:Regs} {h h':Heap} {n n':K4}:HK k cf t h n JV=HK k cf t h' n' JV := by
  cases k <;> first | rfl | (simp [AK.sort] at hs)
theorem TY (p:Plot):p.effs.length=(p.sk.filter SI.isEf).length := by
  unfold Plot.effs
  generalize p.sk=l
  induction l with
  | nil => rfl
  | cons x l ih => cases x <;> simp [List.filterMap_cons, List.filter_cons, SI.isEf] <;> exact ih
theorem J9 (l:Nat):p.bat l≤p.effs.length := by
  rw [TY]
  unfold Plot.bat
  exact (List.Sublist.filter _ (List.take_sublist l p.sk)).length_le
/-- What is done when one more is done. -/
def GT (S:Nat->Bool) (i:Nat):Nat->Bool := fun j => S j || Nat.beq i j
theorem Dj {S:Nat->Bool} {i j:Nat} (h:i≠j):GT S i j=S j := by
  unfold GT
  cases hb:Nat.beq i j with
  | false => simp
  | true => exact absurd (Nat.eq_of_beq_eq_true hb) h
theorem Hr {S:Nat->Bool} {i:Nat}:GT S i i=true := by simp [GT]
theorem CT (G:p.Good) {S:Nat->Bool} (hc:∀ i d, i<p.m->S i=true->d∈p.deps i->S d=true):∀ (i d:Nat), i<p.m->d<p.m->(∀ c∈p.deps i, S c=true)->p.anc i d=true->S d=true := by
  intro i
  induction i using Nat.strongRecOn with
  | _ i ih =>
    intro d hi hd hS ha
    rcases G.anc i d hi hd ha with h | ⟨c, hcd, h⟩
    · exact hS d h
    · have hlt := G.deps i c hi hcd
      exact ih c hlt d (by omega) hd (fun e he => hc c e (by omega) (hS c hcd) he) h
theorem ER {o:Oper} {i:Nat} {a:Act} {w:World} {K:Act->World->Prop} {Q:Exit->Act->World->Prop} (ho:ops[i]? = some o) (h:Ck P ops o a w K Q):wpOp P ops Q i K a w := by
  unfold wpOp
  rw [ho]
  unfold Ck at h
  simp only
  split
  · rename_i hw; rw [if_pos hw] at h; exact .inl h
  · rename_i hw; rw [if_neg hw] at h; exact h
/-- A guard that is read the same way in the run and in the model. -/
theorem CO {o:Oper} {ao:AOp} (hc:Jp P N ops o=some ao) {t:Regs}:(FR ao.g t->∀ φ a, TR ρ N φ t a->Region.wanted o (yielded ops a.tmps)=true)∧(P6 ao.g t->∀ φ a, TR ρ N φ t a->Region.wanted o (yielded ops a.tmps)=false) := by
  obtain ⟨_, hg, _⟩ := BJ hc
  constructor
  · intro hy
    rcases GY (ρ := ρ) (o := o) (yes := .ok .nrm Fi AJ ⟨.d0, .d0, .d0, .d0⟩) (no := .fail "") (by rw [hy]; trivial) hg with ⟨_, h⟩ | ⟨e, _⟩
    · exact h
    · rw [hy] at e; cases e
  · intro hn
    rcases GY (ρ := ρ) (o := o) (yes := .fail "") (no := .ok .nrm Fi AJ ⟨.d0, .d0, .d0, .d0⟩) (by rw [hn]; trivial) hg with ⟨e, _⟩ | ⟨_, h⟩
    · rw [hn] at e; cases e
    · exact h
theorem Inv.keep1 {S:Nat->Bool} {a a':Act} {w:World} {l:Nat} {φ:AT} (I:Inv P ρ B N os p b st h φ0 n w0 S a w l φ) {i:Nat} (hi:i<p.m) (hS:S i=false) (hd:∀ d∈p.deps i, S d=true) (hso:p.sort i≠3)
    (hal:∀ d, p.sk[p.pos i]? = some (.al i d)->¬ FR (os.getD i Cm).g (st (p.pos i)).t)
    (hR:∃ t, Si p st (GT S i) t∧TR ρ N φ t a'):Inv P ρ B N os p b st h φ0 n w0 (GT S i) a' w l φ where
  le := I.le
  closed := fun j d hj hs hd' => by
    by_cases e:i=j
    · subst e
      have := hd d hd'
      unfold GT; rw [this]; rfl
    · rw [Dj e] at hs
      have := I.closed j d hj hs hd'
      unfold GT; rw [this]; rfl
  effs := fun e he hs => by rw [Dj (fun (h:i=e) => hso (by rw [h]; exact hs))]; exact I.effs e he hs
  regs := hR
  gam := I.gam
  fr := I.fr
  room := I.room
  kept := fun j d hj hp hb hy hs => by
    by_cases e:i=j
    · subst e; exact absurd hy (hal d hp)
    · rw [Dj e] at hs; exact I.kept j d hj hp hb hy hs
  free := fun j d hj hp hs => by
    by_cases e:i=j
    · subst e; rw [Hr] at hs; cases hs
    · rw [Dj e] at hs; exact I.free j d hj hp hs
/-- A reading, or what hangs on registers alone. -/
theorem Inv.step_rd (r:Rn P N ops os p cf b st) (hρ:Bo ρ) {S:Nat->Bool} {a:Act} {w:World} {l:Nat} {φ:AT} (I:Inv P ρ B N os p b st h φ0 n w0 S a w l φ) {i:Nat} (hi:i<p.m) (hS:S i=false) (hd:∀ d∈p.deps i, S d=true)
    (hp:p.sk[p.pos i]? = some (.rd i)) (hso:p.sort i≤1) {K:Act->World->Prop} {Q:Exit->Act->World->Prop} (hK:∀ a' w' l' φ', Inv P ρ B N os p b st h φ0 n w0 (GT S i) a' w' l' φ'->K a' w'):wpOp P ops Q i K a w := by
  obtain ⟨o, ao, ho1, ho2, ho3, ho4, ho5, ho6, ho7, ho8⟩ := r.get hi
  obtain ⟨t, hR, hT⟩ := I.regs
  have hanc:∀ d, d<p.m->p.anc i d=true->S d=true := fun d hdm ha => CT r.good I.closed i d hi hdm hd ha
  have hdes:∀ e, e<p.m->p.anc e i=true->S e=false := fun e he ha => by
    cases hSe:S e with
    | false => rfl
    | true =>
      have := CT r.good I.closed e i he hi (fun c hc => I.closed e c he hSe hc) ha
      rw [hS] at this; cases this
  have hal:∀ d, p.sk[p.pos i]? = some (.al i d)->¬ FR (os.getD i Cm).g (st (p.pos i)).t := fun d hpd => by rw [hp] at hpd; cases hpd
  have agA := CG (o := ao) (t := t) (t' := (st (p.pos i)).t) (fun q hq => r.agree hR hi hanc hdes (.inl rfl) q (by rw [ho7]; exact hq))
  have hs := r.step _ _ hp
  have hs:(FR (os.getD i Cm).g (st (p.pos i)).t ∧ ∃ v h n, HK (os.getD i Cm).k cf (st (p.pos i)).t (st (p.pos i)).h0 (st (p.pos i)).n JV = .rv v h n∧st (p.pos i+1)=⟨Ds (os.getD i Cm).dst (st (p.pos i)).t v, (st (p.pos i)).h0, (st (p.pos i)).h1, (st (p.pos i)).n⟩)∨(P6 (os.getD i Cm).g (st (p.pos i)).t∧st (p.pos i+1)=⟨Ds (os.getD i Cm).dst (st (p.pos i)).t Ay, (st (p.pos i)).h0, (st (p.pos i)).h1, (st (p.pos i)).n⟩) := hs
  rw [ho3] at hs
  refine ER ho1 ?_
  rcases hs with ⟨hy, v, h', n', e1, e2⟩ | ⟨hn, e2⟩
  · have hy':FR ao.g t := fun y n => (agA.2 y n).trans (hy y n)
    have hv:(st (p.pos i+1)).t=Ds (p.dst i) (st (p.pos i)).t v := by rw [e2, ho6]
    -- the value, read here
    have here:∃ h'' n'', HK ao.k cf t (st l).h0 (st l).n JV = .rv v h'' n'' := by
      rcases Nat.lt_or_ge (p.sort i) 1 with h0 | h0
      · rw [DJ agA.1, Yo (k := ao.k) (by rw [←ho5]; omega) (h' := (st (p.pos i)).h0) (n' := (st (p.pos i)).n)]
        exact ⟨_, _, e1⟩
      · have hbk:p.bat l≤p.effs.length := J9 l
        rcases r.good.read i (p.bat l) hi (by omega) hbk with ⟨e, he, hse, h3 | h3⟩ | ⟨a', d', hq, _⟩ | ⟨l', x, hbl, hx, hxr⟩
        · have := (I.effs e he hse).1 (hanc e he h3.1); omega
        · have := (I.effs e he hse).2 h3.2
          rw [hdes e he h3.1] at this; cases this
        · rw [hp] at hq; cases hq
        · have hsb:(st l').h0=(st l).h0∧(st l').n=(st l).n := by
            rcases Nat.le_total l' l with hle | hle
            · exact r.same_batch hle I.le hbl
            · obtain ⟨q1, q2⟩ := r.same_batch hle (Nat.le_of_lt (Plot.sk_lt hx)) hbl.symm
              exact ⟨q1.symm, q2.symm⟩
          cases x with
          | rd i' =>
            simp only [SI.reads, Option.some.injEq] at hxr; subst hxr
            obtain ⟨_, hpl⟩ := r.good.uniq l' _ i' hx rfl
            subst hpl
            rw [DJ agA.1, ←hsb.1, ←hsb.2]
            exact ⟨_, _, e1⟩
          | ck i' =>
            simp only [SI.reads, Option.some.injEq] at hxr; subst hxr
            have agB := CG (o := ao) (t := t) (t' := (st l').t) (fun q hq => r.agree hR hi hanc hdes (.inr hx) q (by rw [ho7]; exact hq))
            have hc := (r.step _ _ hx).2
            rw [ho3] at hc
            rcases hc with ⟨_, q, h3, n3, hq, e3⟩ | hn
            · rw [DJ agB.1, ←hsb.1, ←hsb.2]
              have hpl := (r.good.ck l' i' hx).2.1
              have hdq:p.dst i'=some q := by rw [ho6]; exact hq
              have e4:Bg q (st l').t=v := by
                rw [r.reg_after hi hdq hpl (Nat.le_of_lt (Plot.sk_lt hx)), ←r.reg_after hi hdq (l := p.pos i'+1) (by omega) (by have := Plot.sk_lt hp; omega), hv, hdq]
                exact B7 _ _ _
              rw [e4] at e3
              exact ⟨_, _, e3⟩
            · have := (hy' (.fail "") (.ok .nrm Fi AJ b)).symm.trans ((agB.2 _ _).trans (hn _ _))
              cases this
          | _ => cases hxr
    obtain ⟨h'', n'', e3⟩ := here
    have hk:Fs P N o=some ao.k := by
      rcases (BJ ho4).2.2 with hk | ⟨why, hk⟩
      · exact hk
      · rw [hk] at e3; cases e3
    obtain ⟨v', e4, hpure⟩ := MP (P := P) (ρ := ρ) (B := B) (N := N) (cf := cf) (t := t) (h := (st l).h0) (n := (st l).n) hρ hk (by rw [←ho5]; exact hso) JV (by rw [e3]; trivial)
    rw [e3] at e4
    cases e4
    obtain ⟨x, hx, hrx⟩ := hpure φ a w hT I.gam
    unfold Ck
    rw [if_pos ((CO (ρ := ρ) ho4).1 hy' φ a hT)]
    unfold Oper.wp
    rw [hx]
    refine hK _ w l φ (I.keep1 hi hS hd (by omega) hal ⟨_, r.regS_put hR hi hv, ?_⟩)
    rw [ho6]
    exact hT.puts (BJ ho4).1 hrx
  · have hn':P6 ao.g t := fun y n => (agA.2 y n).trans (hn y n)
    have hv:(st (p.pos i+1)).t=Ds (p.dst i) (st (p.pos i)).t Ay := by rw [e2, ho6]
    unfold Ck
    rw [if_neg (by rw [(CO (ρ := ρ) ho4).2 hn' φ a hT]; simp)]
    refine hK _ w l φ (I.keep1 hi hS hd (by omega) hal ⟨_, r.regS_put hR hi hv, ?_⟩)
    rw [ho6]
    exact hT.puts (BJ ho4).1 EZ
/-- New memory. -/
theorem Inv.step_al (r:Rn P N ops os p cf b st) (hρ:Bo ρ) (hb0:p.HasAl->b.d = .d0) (hbn:p.HasAl->n.toN≤b.toN) {S:Nat->Bool} {a:Act} {w:World} {l:Nat} {φ:AT} (I:Inv P ρ B N os p b st h φ0 n w0 S a w l φ) {i:Nat} {d:D} (hi:i<p.m) (hS:S i=false) (hd:∀ d∈p.deps i, S d=true)
    (hp:p.sk[p.pos i]? = some (.al i d)) (hso:p.sort i=2) {K:Act->World->Prop} {Q:Exit->Act->World->Prop} (hK:∀ a' w' l' φ', Inv P ρ B N os p b st h φ0 n w0 (GT S i) a' w' l' φ'->K a' w'):wpOp P ops Q i K a w := by
  obtain ⟨o, ao, ho1, ho2, ho3, ho4, ho5, ho6, ho7, ho8⟩ := r.get hi
  obtain ⟨t, hR, hT⟩ := I.regs
  have hanc:∀ d, d<p.m->p.anc i d=true->S d=true := fun d hdm ha => CT r.good I.closed i d hi hdm hd ha
  have hdes:∀ e, e<p.m->p.anc e i=true->S e=false := fun e he ha => by
    cases hSe:S e with
    | false => rfl
    | true =>
      have := CT r.good I.closed e i he hi (fun c hc => I.closed e c he hSe hc) ha
      rw [hS] at this; cases this
  have agA := CG (o := ao) (t := t) (t' := (st (p.pos i)).t) (fun q hq => r.agree hR hi hanc hdes (.inl rfl) q (by rw [ho7]; exact hq))
  have hs := r.al_step hρ hi hp
  rw [ho3] at hs
  refine ER ho1 ?_
  rcases hs with ⟨hy, hn0, v, ob, n', e1, e2⟩ | ⟨hn, e2⟩
  · have hy':FR ao.g t := fun y n => (agA.2 y n).trans (hy y n)
    have hv:(st (p.pos i+1)).t=Ds (p.dst i) (st (p.pos i)).t v := by rw [e2]
    have hk:Fs P N o=some ao.k := by
      rcases (BJ ho4).2.2 with hk | ⟨why, hk⟩
      · exact hk
      · rw [hk] at e1; cases e1
    have e3:HK ao.k cf t (st (p.pos i)).h1 (Eo b d) R.rv = .rv v (Af (Eo b d) (st (p.pos i)).h1 (some ob)) n' := (DJ agA.1).trans e1
    obtain ⟨v', ob', n'', e4, hal⟩ := Ki (P := P) (ρ := ρ) (N := N) (cf := cf) (t := t) (h := (st (p.pos i)).h1) (n := Eo b d) hρ hk (by rw [←ho5]; exact hso) R.rv (by rw [e3]; trivial)
    rw [e3] at e4
    simp only [R.rv.injEq] at e4
    obtain ⟨rfl, e5, rfl⟩ := e4
    have hob:ob=ob' := by
      have := congrArg (A8 (Eo b d)) e5
      rw [A6, A6] at this
      simpa using this
    subst hob
    have hφ := I.free i d hi hp hS
    obtain ⟨x, O, tot, w1, hx, hw1, hrx, hobk⟩ := hal.run φ a w hT hφ
    -- it is not too late for it
    have hbl:p.bat l≤p.bat (p.pos i) := by
      rcases Nat.lt_or_ge (p.bat (p.pos i)) (p.bat l) with h' | h'
      · obtain ⟨e, he, hse, ha, hlt⟩ := (r.good.al i d hi hp (p.bat l) (J9 l)).2 h'
        have := (I.effs e he hse).2 hlt
        rw [hdes e he ha] at this; cases this
      · exact h'
    have hfree:A8 (Eo b d) (st l).h0=none := by
      obtain ⟨l', hb', hx'⟩ := (r.good.al i d hi hp (p.bat l) (J9 l)).1 hbl
      have hno := (r.step _ _ hx').2
      rcases Nat.le_total l' l with hle | hle
      · rw [←(r.same_batch hle I.le hb').1]; exact hno
      · rw [(r.same_batch hle (Nat.le_of_lt (Plot.sk_lt hx')) hb'.symm).1]; exact hno
    have hA:p.HasAl := ⟨i, d, hi, hp⟩
    have hrn:(Eo b d).toN<(st l).n.toN := by
      rw [IH d (hb0 hA)]; have := I.room hA; have := D.toN_lt d; omega
    have hrb:n.toN≤(Eo b d).toN := by rw [IH d (hb0 hA)]; have := hbn hA; omega
    have hw1h:w1.heap=w.heap := by rcases hw1 with e | e <;> rw [e] <;> rfl
    have hw1s:w1.heap.size=w.heap.size := by rw [hw1h]
    have g1:Gam ρ B (st l).h0 (st l).n φ w1 := by
      rcases hw1 with e | e
      · rw [e]; exact I.gam
      · rw [e]; exact I.gam.drew
    have f1:Fr h (st l).h0 φ0 φ n (st l).n w0 w1 := by
      rcases hw1 with e | e
      · rw [e]; exact I.fr
      · rw [e]; exact I.fr.drewR
    have g2 := g1.hide hφ hrn hfree O tot
    have f2 := f1.hide hφ hrb hrn O tot
    rw [hw1s] at g2 f2
    unfold Ck
    rw [if_pos ((CO (ρ := ρ) ho4).1 hy' φ a hT)]
    unfold Oper.wp
    rw [hx]
    have hle:AT.le φ (EG φ (Eo b d) (w.heap.size, 0, tot)) := D5 hφ
    refine hK _ _ l (EG φ (Eo b d) (w.heap.size, 0, tot)) {
      le := I.le
      closed := fun j c hj hs hc => by
        by_cases e:i=j
        · subst e; have := hd c hc; unfold GT; rw [this]; rfl
        · rw [Dj e] at hs; have := I.closed j c hj hs hc; unfold GT; rw [this]; rfl
      effs := fun e he hs => by rw [Dj (fun (h:i=e) => by rw [h] at hso; omega)]; exact I.effs e he hs
      regs := ⟨_, r.regS_put hR hi hv, by rw [ho6]; exact (hT.mono hle).puts (BJ ho4).1 hrx⟩
      gam := g2
      fr := f2
      room := I.room
      kept := fun j c hj hpj hbj hyj hs => by
        by_cases e:i=j
        · subst e
          rw [hp] at hpj; cases hpj
          refine ⟨w.heap.size, tot, ob, Cj _ _ _, by rw [e2]; exact A6 _ _ _, hal.prev, hobk _ _ hle (by rw [←hw1s]; exact Ik), fun q x y hq => ?_⟩
          rcases AI hq with ⟨h', _⟩ | ⟨_, hq⟩
          · exact h'.symm
          · have := (I.gam.blk q _ x y hq).2; omega
        · rw [Dj e] at hs
          obtain ⟨bk, tot', ob', k1, k2, k3, k4, k5⟩ := I.kept j c hj hpj hbj hyj hs
          have hne:Eo b d≠Eo b c := fun h' => r.good.alD i j d c hi hj e hp hpj (JQ h')
          have hbk := (I.gam.blk _ _ _ _ k1).2
          refine ⟨bk, tot', ob', by rw [Hv hne]; exact k1, k2, k3, Cp (w := w) ?_ (E6 hle k4), fun q x y hq => ?_⟩
          · rw [Go.RowKit.Below.heap_alloc w1 O bk (by rw [hw1s]; exact hbk), hw1h]
          · rcases AI hq with ⟨_, h'⟩ | ⟨_, hq⟩
            · simp only [Prod.mk.injEq] at h'; omega
            · exact k5 q x y hq
      free := fun j c hj hpj hs => by
        by_cases e:i=j
        · subst e; rw [Hr] at hs; cases hs
        · rw [Dj e] at hs
          have hne:Eo b d≠Eo b c := fun h' => r.good.alD i j d c hi hj e hp hpj (JQ h')
          rw [Hv hne]; exact I.free j c hj hpj hs }
  · have hn':P6 ao.g t := fun y n => (agA.2 y n).trans (hn y n)
    have hv:(st (p.pos i+1)).t=Ds (p.dst i) (st (p.pos i)).t Ay := by rw [e2]
    unfold Ck
    rw [if_neg (by rw [(CO (ρ := ρ) ho4).2 hn' φ a hT]; simp)]
    refine hK _ w l φ (I.keep1 hi hS hd (by omega) (fun d' _ hy => ?_) ⟨_, r.regS_put hR hi hv, ?_⟩)
    · rw [ho3] at hy
      have := (hy (.fail "") (.ok .nrm Fi AJ b)).symm.trans (hn _ _)
      cases this
    · rw [ho6]
      exact hT.puts (BJ ho4).1 EZ
end
end Go.Ev

namespace Go.Ev
set_option linter.unusedVariables false
section
variable {P:Program} {ρ:Env} {B N:Nat} {ops:Array Oper} {os:List AOp} {p:Plot} {b:K4} {cf:CF} {st:Nat->St} {h:Heap} {φ0:AT} {n:K4} {w0:World}
theorem Inv.none_at (r:Rn P N ops os p cf b st) {l:Nat} (hL:l≤p.sk.length) {i:Nat} {d:D} (hi:i<p.m) (hp:p.sk[p.pos i]? = some (.al i d)) (hb:p.bat l≤p.bat (p.pos i)):A8 (Eo b d) (st l).h0=none := by
  obtain ⟨l', hb', hx'⟩ := (r.good.al i d hi hp (p.bat l) (J9 l)).1 hb
  have hno := (r.step _ _ hx').2
  rcases Nat.le_total l' l with hle | hle
  · rw [←(r.same_batch hle hL hb').1]; exact hno
  · rw [(r.same_batch hle (Nat.le_of_lt (Plot.sk_lt hx')) hb'.symm).1]; exact hno
/-- The heap that tells of one new object alone. -/
theorem Gam.lone {h:Heap} {n:K4} {φ:AT} {w:World} (g:Gam ρ B h n φ w) {q:K4} {ob:Ob} {bk tot:Nat} (hq:φ q=some (bk, 0, tot)) (hp:Cf ob=none) (ho:GE ρ φ w ob bk 0 tot):Gam ρ B (Af q AJ (some ob)) n φ w where
  base := g.base
  glob := g.glob
  dom := g.dom
  blk := g.blk
  obj := fun p o b s t hp' hx => by
    rcases BA hp' with ⟨rfl, e⟩ | ⟨_, e⟩
    · cases e
      rw [hq] at hx; simp only [Option.some.injEq, Prod.mk.injEq] at hx
      obtain ⟨rfl, rfl, rfl⟩ := hx
      exact ho
    · rw [Ew] at e; cases e
  sep := fun p q' o o' b s t s' t' hne hp' hq' hx hy => by
    rcases BA hp' with ⟨rfl, _⟩ | ⟨_, e⟩
    · rcases BA hq' with ⟨rfl, _⟩ | ⟨_, e⟩
      · exact absurd rfl hne
      · rw [Ew] at e; cases e
    · rw [Ew] at e; cases e
  sup := fun p q' o o' b s t s' t' hp' hpr hq' hx hy => by
    rcases BA hp' with ⟨rfl, e⟩ | ⟨_, e⟩
    · cases e; rw [hp] at hpr; cases hpr
    · rw [Ew] at e; cases e
theorem Acj {k:AK} (hs:k.sort≤1) {t:Regs} {h:Heap} {n n':K4}:HK k cf t h n JV=HK k cf t h n' JV := by
  cases k <;> first | (exfalso; simp [AK.sort] at hs; done) | rfl
/-- A reading of what was Lr. -/
theorem Inv.step_rn (r:Rn P N ops os p cf b st) (hρ:Bo ρ) (h00:(st 0).h1=(st 0).h0) {S:Nat->Bool} {a:Act} {w:World} {l:Nat} {φ:AT} (I:Inv P ρ B N os p b st h φ0 n w0 S a w l φ) {i:Nat} (hi:i<p.m) (hS:S i=false) (hd:∀ d∈p.deps i, S d=true)
    {al:Nat} {dd:D} (hp:p.sk[p.pos i]? = some (.rn i al dd)) (hso:p.sort i≤1) {K:Act->World->Prop} {Q:Exit->Act->World->Prop} (hK:∀ a' w' l' φ', Inv P ρ B N os p b st h φ0 n w0 (GT S i) a' w' l' φ'->K a' w'):wpOp P ops Q i K a w := by
  obtain ⟨o, ao, ho1, ho2, ho3, ho4, ho5, ho6, ho7, ho8⟩ := r.get hi
  obtain ⟨t, hR, hT⟩ := I.regs
  have hanc:∀ d, d<p.m->p.anc i d=true->S d=true := fun d hdm ha => CT r.good I.closed i d hi hdm hd ha
  have hdes:∀ e, e<p.m->p.anc e i=true->S e=false := fun e he ha => by
    cases hSe:S e with
    | false => rfl
    | true =>
      have := CT r.good I.closed e i he hi (fun c hc => I.closed e c he hSe hc) ha
      rw [hS] at this; cases this
  have hal:∀ d, p.sk[p.pos i]? = some (.al i d)->¬ FR (os.getD i Cm).g (st (p.pos i)).t := fun d hpd => by rw [hp] at hpd; cases hpd
  have agA := CG (o := ao) (t := t) (t' := (st (p.pos i)).t) (fun q hq => r.agree hR hi hanc hdes (.inl rfl) q (by rw [ho7]; exact hq))
  have hs := r.step _ _ hp
  have hs:(FR (os.getD i Cm).g (st (p.pos i)).t ∧ ∃ ob v h n, A8 (Eo b dd) (st (p.pos i)).h1=some ob∧HK (os.getD i Cm).k cf (st (p.pos i)).t (Af (Eo b dd) AJ (some ob)) (st (p.pos i)).n JV = .rv v h n∧st (p.pos i+1)=⟨Ds (os.getD i Cm).dst (st (p.pos i)).t v, (st (p.pos i)).h0, (st (p.pos i)).h1, (st (p.pos i)).n⟩)∨(P6 (os.getD i Cm).g (st (p.pos i)).t∧st (p.pos i+1)=⟨Ds (os.getD i Cm).dst (st (p.pos i)).t Ay, (st (p.pos i)).h0, (st (p.pos i)).h1, (st (p.pos i)).n⟩) := hs
  rw [ho3] at hs
  refine ER ho1 ?_
  rcases hs with ⟨hy, ob, v, h', n', e0, e1, e2⟩ | ⟨hn, e2⟩
  · have hy':FR ao.g t := fun y n => (agA.2 y n).trans (hy y n)
    have hv:(st (p.pos i+1)).t=Ds (p.dst i) (st (p.pos i)).t v := by rw [e2, ho6]
    obtain ⟨ha, hpa, haa, hpo, hba⟩ := r.good.rn i al dd hi hp
    -- the value, read here
    have here:∃ hX, Gam ρ B hX (st l).n φ w ∧ ∃ h'' n'', HK ao.k cf t hX (st l).n JV = .rv v h'' n'' := by
      rcases Nat.lt_or_ge (p.sort i) 1 with h0 | h0
      · refine ⟨(st l).h0, I.gam, ?_⟩
        rw [DJ agA.1, Yo (k := ao.k) (by rw [←ho5]; omega) (h' := Af (Eo b dd) AJ (some ob)) (n' := (st (p.pos i)).n)]
        exact ⟨_, _, e1⟩
      · have hbk:p.bat l≤p.effs.length := J9 l
        rcases r.good.read i (p.bat l) hi (by omega) hbk with ⟨e, he, hse, h3 | h3⟩ | ⟨a', d', hq, hle⟩ | ⟨l', x, hbl, hx, hxr⟩
        · have := (I.effs e he hse).1 (hanc e he h3.1); omega
        · have := (I.effs e he hse).2 h3.2
          rw [hdes e he h3.1] at this; cases this
        · rw [hp] at hq; cases hq
          have hlp:p.pos i≤p.sk.length := Nat.le_of_lt (Plot.sk_lt hp)
          rcases r.h1_at hρ h00 (Eo b dd) hlp with h1 | ⟨i', c', a1, a2, a3, a4, a5, a6, a7⟩
          · rw [h1, Inv.none_at r hlp ha hpa (by omega)] at e0; cases e0
          · have hii:al=i' := by
              rcases Nat.decEq al i' with hne | he
              · exact absurd (JQ a5) (r.good.alD al i' dd c' ha a1 hne hpa a2)
              · exact he
            subst hii
            obtain ⟨bk, tot, ob', k1, k2, k3, k4, k5⟩ := I.kept al dd ha hpa hle a6 (hanc al ha haa)
            have hob:ob'=ob := by rw [a7, k2] at e0; cases e0; rfl
            subst hob
            refine ⟨_, I.gam.lone k1 k3 k4, ?_⟩
            rw [DJ agA.1, Acj (by rw [←ho5]; exact hso) (n' := (st (p.pos i)).n)]
            exact ⟨_, _, e1⟩
        · have hsb:(st l').h0=(st l).h0∧(st l').n=(st l).n := by
            rcases Nat.le_total l' l with hle | hle
            · exact r.same_batch hle I.le hbl
            · obtain ⟨q1, q2⟩ := r.same_batch hle (Nat.le_of_lt (Plot.sk_lt hx)) hbl.symm
              exact ⟨q1.symm, q2.symm⟩
          refine ⟨(st l).h0, I.gam, ?_⟩
          cases x with
          | rd i' =>
            simp only [SI.reads, Option.some.injEq] at hxr; subst hxr
            obtain ⟨_, hpl⟩ := r.good.uniq l' _ i' hx rfl
            subst hpl
            rw [hp] at hx; cases hx
          | ck i' =>
            simp only [SI.reads, Option.some.injEq] at hxr; subst hxr
            have agB := CG (o := ao) (t := t) (t' := (st l').t) (fun q hq => r.agree hR hi hanc hdes (.inr hx) q (by rw [ho7]; exact hq))
            have hc := (r.step _ _ hx).2
            rw [ho3] at hc
            rcases hc with ⟨_, q, h3, n3, hq, e3⟩ | hn
            · rw [DJ agB.1, ←hsb.1, ←hsb.2]
              have hpl := (r.good.ck l' i' hx).2.1
              have hdq:p.dst i'=some q := by rw [ho6]; exact hq
              have e4:Bg q (st l').t=v := by
                rw [r.reg_after hi hdq hpl (Nat.le_of_lt (Plot.sk_lt hx)), ←r.reg_after hi hdq (l := p.pos i'+1) (by omega) (by have := Plot.sk_lt hp; omega), hv, hdq]
                exact B7 _ _ _
              rw [e4] at e3
              exact ⟨_, _, e3⟩
            · have := (hy' (.fail "") (.ok .nrm Fi AJ b)).symm.trans ((agB.2 _ _).trans (hn _ _))
              cases this
          | _ => cases hxr
    obtain ⟨hX, gX, h'', n'', e3⟩ := here
    have hk:Fs P N o=some ao.k := by
      rcases (BJ ho4).2.2 with hk | ⟨why, hk⟩
      · exact hk
      · rw [hk] at e3; cases e3
    obtain ⟨v', e4, hpure⟩ := MP (P := P) (ρ := ρ) (B := B) (N := N) (cf := cf) (t := t) (h := hX) (n := (st l).n) hρ hk (by rw [←ho5]; exact hso) JV (by rw [e3]; trivial)
    rw [e3] at e4
    cases e4
    obtain ⟨x, hx, hrx⟩ := hpure φ a w hT gX
    unfold Ck
    rw [if_pos ((CO (ρ := ρ) ho4).1 hy' φ a hT)]
    unfold Oper.wp
    rw [hx]
    refine hK _ w l φ (I.keep1 hi hS hd (by omega) hal ⟨_, r.regS_put hR hi hv, ?_⟩)
    rw [ho6]
    exact hT.puts (BJ ho4).1 hrx
  · have hn':P6 ao.g t := fun y n => (agA.2 y n).trans (hn y n)
    have hv:(st (p.pos i+1)).t=Ds (p.dst i) (st (p.pos i)).t Ay := by rw [e2, ho6]
    unfold Ck
    rw [if_neg (by rw [(CO (ρ := ρ) ho4).2 hn' φ a hT]; simp)]
    refine hK _ w l φ (I.keep1 hi hS hd (by omega) hal ⟨_, r.regS_put hR hi hv, ?_⟩)
    rw [ho6]
    exact hT.puts (BJ ho4).1 EZ
/-- All that was Lr in a batch is told of at its end. -/
theorem Inv.shown (r:Rn P N ops os p cf b st) (hρ:Bo ρ) (hb0:p.HasAl->b.d = .d0) (hbn:p.HasAl->n.toN≤b.toN) (h00:(st 0).h1=(st 0).h0) (hdom:∀ q x, φ0 q=some x->q.toN<n.toN) {S:Nat->Bool} {a:Act} {w:World} {l:Nat} {φ:AT} (I:Inv P ρ B N os p b st h φ0 n w0 S a w l φ)
    {l':Nat} (hl':l'≤p.sk.length) (hb:p.bat l'=p.bat l) (hS:∀ i d, i<p.m->p.sk[p.pos i]? = some (.al i d)->p.pos i<l'->p.bat (p.pos i)=p.bat l->S i=true) :
    Gam ρ B (st l').h1 (st l').n φ w∧Fr h (st l').h1 φ0 φ n (st l').n w0 w := by
  have hsb:(st l').h0=(st l).h0∧(st l').n=(st l).n := by
    rcases Nat.le_total l' l with hle | hle
    · exact r.same_batch hle I.le hb
    · obtain ⟨q1, q2⟩ := r.same_batch hle hl' hb.symm
      exact ⟨q1.symm, q2.symm⟩
  rw [hsb.2]
  refine ⟨I.gam.showAll fun q => ?_, I.fr.show fun q hq => ?_⟩
  · rcases r.h1_at hρ h00 q hl' with h' | ⟨i, d, a1, a2, a3, a4, a5, a6, a7⟩
    · exact .inl (h'.trans (by rw [hsb.1]))
    · subst a5
      obtain ⟨bk, tot, ob, k1, k2, k3, k4, k5⟩ := I.kept i d a1 a2 (by omega) a6 (hS i d a1 a2 a3 (by omega))
      exact .inr ⟨ob, bk, tot, Inv.none_at r I.le a1 a2 (by omega), a7.trans k2, k3, k1, k4, k5⟩
  · rcases r.h1_at hρ h00 q hl' with h' | ⟨i, d, a1, a2, a3, a4, a5, a6, a7⟩
    · exact h'.trans (by rw [hsb.1])
    · subst a5
      cases hx:φ0 (Eo b d) with
      | none => exact absurd hx hq
      | some x =>
        have := hdom _ _ hx
        have hA:p.HasAl := ⟨i, d, a1, a2⟩
        rw [IH d (hb0 hA)] at this
        have := hbn hA
        omega
theorem Inv.step_ef (r:Rn P N ops os p cf b st) (hρ:Bo ρ) (hcf:E9 P ρ B cf) (hb0:p.HasAl->b.d = .d0) (hbn:p.HasAl->n.toN≤b.toN) (h00:(st 0).h1=(st 0).h0) (hdom:∀ q x, φ0 q=some x->q.toN<n.toN) {S:Nat->Bool} {a:Act} {w:World} {l:Nat} {φ:AT} (I:Inv P ρ B N os p b st h φ0 n w0 S a w l φ)
    {i:Nat} (hi:i<p.m) (hS:S i=false) (hd:∀ d∈p.deps i, S d=true) (hp:p.sk[p.pos i]? = some (.ef i)) (hso:p.sort i=3) {K:Act->World->Prop} {Q:Exit->Act->World->Prop} (hK:∀ a' w' l' φ', Inv P ρ B N os p b st h φ0 n w0 (GT S i) a' w' l' φ'->K a' w'):wpOp P ops Q i K a w := by
  obtain ⟨o, ao, ho1, ho2, ho3, ho4, ho5, ho6, ho7, ho8⟩ := r.get hi
  obtain ⟨t, hR, hT⟩ := I.regs
  have hanc:∀ d, d<p.m->p.anc i d=true->S d=true := fun d hdm ha => CT r.good I.closed i d hi hdm hd ha
  have hdes:∀ e, e<p.m->p.anc e i=true->S e=false := fun e he ha => by
    cases hSe:S e with
    | false => rfl
    | true =>
      have := CT r.good I.closed e i he hi (fun c hc => I.closed e c he hSe hc) ha
      rw [hS] at this; cases this
  have agA := CG (o := ao) (t := t) (t' := (st (p.pos i)).t) (fun q hq => r.agree hR hi hanc hdes (.inl rfl) q (by rw [ho7]; exact hq))
  have hpl := Plot.sk_lt hp
  -- the number of effects done
  have hbat:p.bat (p.pos i)=p.bat l := by
    rcases Nat.lt_trichotomy (p.bat (p.pos i)) (p.bat l) with h' | h' | h'
    · have := (I.effs i hi hso).2 h'; rw [hS] at this; cases this
    · exact h'
    · obtain ⟨l1, e, q1, q2, q3⟩ := Rn.ef_at (Nat.le_of_lt hpl) h'
      obtain ⟨hm, hpe⟩ := r.good.uniq l1 _ e q2 rfl
      have hse:p.sort e=3 := by
        rcases r.good.pos e hm with ⟨_, hh⟩ | ⟨j, hh, _⟩ | ⟨hh | ⟨_, _, hh⟩, _⟩
        · exact hh
        · rw [hpe, q2] at hh; cases hh
        · rw [hpe, q2] at hh; cases hh
        · rw [hpe, q2] at hh; cases hh
      have := (I.effs e hm hse).1 (hanc e hm (r.good.eff e i hm hi hse hso (by omega)))
      rw [hpe] at this; omega
  have hsucc:p.bat (p.pos i+1)=p.bat l+1 := by rw [Rn.bat_succ hp, hbat]; rfl
  have only:∀ e, e<p.m->p.sort e=3->p.bat (p.pos e)=p.bat l->e=i := fun e he hse hbe => by
    have hpe:p.sk[p.pos e]? = some (.ef e) := by
      rcases r.good.pos e he with ⟨hh, _⟩ | ⟨j, _, hh⟩ | ⟨_, hh⟩
      · exact hh
      · omega
      · omega
    rcases Nat.lt_trichotomy (p.pos e) (p.pos i) with h' | h' | h'
    · have := (I.effs e he hse).1 (hanc e he (r.good.eff e i he hi hse hso h')); omega
    · rw [h', hp] at hpe; cases hpe; rfl
    · have := Rn.bat_mono (p := p) (show p.pos i+1≤p.pos e by omega) (Nat.le_of_lt (Plot.sk_lt hpe)); omega
  have hall:∀ j d, j<p.m->p.sk[p.pos j]? = some (.al j d)->p.bat (p.pos j)=p.bat l->S j=true := fun j d hj hpj hbj => by
    have hk:p.bat l+1≤p.effs.length := by rw [←hsucc]; exact J9 _
    obtain ⟨e, he, hse, ha, hlt⟩ := (r.good.al j d hj hpj (p.bat l+1) hk).2 (by omega)
    rcases Nat.lt_or_ge (p.bat (p.pos e)) (p.bat l) with h' | h'
    · have hSe := (I.effs e he hse).2 h'
      exact CT r.good I.closed e j he hj (fun c hc => I.closed e c he hSe hc) ha
    · have := only e he hse (by omega)
      subst this
      exact hanc j hj ha
  obtain ⟨g1, f1⟩ := I.shown r hρ hb0 hbn h00 hdom (Nat.le_of_lt hpl) hbat fun j d hj hpj _ hbj => hall j d hj hpj hbj
  have hnn:(st (p.pos i)).n=(st l).n := by
    rcases Nat.le_total (p.pos i) l with hle | hle
    · exact (r.same_batch hle I.le hbat).2
    · exact (r.same_batch hle (Nat.le_of_lt hpl) hbat.symm).2.symm
  -- what comes then
  have fin:∀ (v:V) (h':Heap) (n':K4) (φ':AT) (x:Value) (w':World), st (p.pos i+1)=⟨Ds (p.dst i) (st (p.pos i)).t v, h', h', n'⟩->Fr (st (p.pos i)).h1 h' φ φ' (st (p.pos i)).n n' w w'->Gam ρ B h' n' φ' w'->As ρ φ' v x →
      Inv P ρ B N os p b st h φ0 n w0 (GT S i) (a.put o.dst x) w' (p.pos i+1) φ' := fun v h' n' φ' x w' e2 f2 g2 hrx => by
    have pend:∀ j c, j<p.m->p.sk[p.pos j]? = some (.al j c)->p.bat l+1≤p.bat (p.pos j)->A8 (Eo b c) (st (p.pos i)).h1=none := fun j c hj hpj hbj => by
      rcases r.h1_at hρ h00 (Eo b c) (Nat.le_of_lt hpl) with h1 | ⟨j', c', a1, a2, a3, a4, a5, a6, a7⟩
      · rw [h1]
        have hsb:(st (p.pos i)).h0=(st l).h0 := by
          rcases Nat.le_total (p.pos i) l with hle | hle
          · exact (r.same_batch hle I.le hbat).1
          · exact (r.same_batch hle (Nat.le_of_lt hpl) hbat.symm).1.symm
        rw [hsb]; exact Inv.none_at r I.le hj hpj (by omega)
      · by_cases e:j=j'
        · subst e; omega
        · exact absurd (JQ a5) (r.good.alD j j' c c' hj a1 e hpj a2)
    exact {
      le := by omega
      closed := fun j c hj hs hc => by
        by_cases e:i=j
        · subst e; have := hd c hc; unfold GT; rw [this]; rfl
        · rw [Dj e] at hs; have := I.closed j c hj hs hc; unfold GT; rw [this]; rfl
      effs := fun e he hs => by
        rw [hsucc]
        by_cases e':i=e
        · subst e'; rw [Hr]; simp; omega
        · rw [Dj e', I.effs e he hs]
          have hne:p.bat (p.pos e)≠p.bat l := fun hh => e' (only e he hs hh).symm
          omega
      regs := ⟨_, r.regS_put hR hi (by rw [e2]), by rw [ho6]; exact (hT.mono f2.ext).puts (BJ ho4).1 hrx⟩
      gam := by rw [e2]; exact g2
      fr := by rw [e2]; exact Fr.trans f1 f2
      room := fun hA => by rw [e2]; have := I.room hA; have := f2.nn; rw [hnn] at this; show b.toN+16≤n'.toN; omega
      kept := fun j c hj hpj hbj hyj hs => by
        rw [hsucc] at hbj
        have e:i≠j := fun e => by subst e; rw [hp] at hpj; cases hpj
        rw [Dj e] at hs
        obtain ⟨bk, tot, ob, k1, k2, k3, k4, k5⟩ := I.kept j c hj hpj (by omega) hyj hs
        have hnone := pend j c hj hpj hbj
        have hbk := (I.gam.blk _ _ _ _ k1).2
        refine ⟨bk, tot, ob, f2.ext _ _ k1, k2, k3, Cp (f2.old bk hbk fun q s tt hq => by rw [k5 q s tt hq]; exact hnone) (E6 f2.ext k4), fun q x y hq => ?_⟩
        rcases f2.fresh q bk x y hq with h1 | h1 | ⟨q', s', t', h1, h2⟩
        · exact k5 q x y h1
        · omega
        · rw [k5 q' s' t' h1] at h2; exact absurd hnone h2
      free := fun j c hj hpj hs => by
        have e:i≠j := fun e => by subst e; rw [hp] at hpj; cases hpj
        rw [Dj e] at hs
        have hn := I.free j c hj hpj hs
        cases hx:φ' (Eo b c) with
        | none => rfl
        | some x =>
          rcases f2.new _ _ hx with h1 | ⟨h1, _⟩
          · rw [hn] at h1; cases h1
          · rw [hnn, IH c (hb0 ⟨j, c, hj, hpj⟩)] at h1
            have := I.room ⟨j, c, hj, hpj⟩; have := D.toN_lt c; omega }
  have hs:(FR (os.getD i Cm).g (st (p.pos i)).t ∧ ∃ v h n, HK (os.getD i Cm).k cf (st (p.pos i)).t (st (p.pos i)).h1 (st (p.pos i)).n R.rv = .rv v h n∧st (p.pos i+1)=⟨Ds (os.getD i Cm).dst (st (p.pos i)).t v, h, h, n⟩)∨(P6 (os.getD i Cm).g (st (p.pos i)).t∧st (p.pos i+1)=⟨Ds (os.getD i Cm).dst (st (p.pos i)).t Ay, (st (p.pos i)).h1, (st (p.pos i)).h1, (st (p.pos i)).n⟩) := r.step _ _ hp
  rw [ho3] at hs
  refine ER ho1 ?_
  rcases hs with ⟨hy, v, h', n', e1, e2⟩ | ⟨hn, e2⟩
  · have hy':FR ao.g t := fun y n => (agA.2 y n).trans (hy y n)
    have e3:HK ao.k cf t (st (p.pos i)).h1 (st (p.pos i)).n R.rv = .rv v h' n' := (DJ agA.1).trans e1
    have hk:Fs P N o=some ao.k := by
      rcases (BJ ho4).2.2 with hk | ⟨why, hk⟩
      · exact hk
      · rw [hk] at e3; cases e3
    obtain ⟨v', h'', n'', e4, hstep⟩ := KF (P := P) (ρ := ρ) (B := B) (N := N) (cf := cf) (t := t) (h := (st (p.pos i)).h1) (n := (st (p.pos i)).n) hρ hcf hk R.rv (by rw [e3]; trivial)
    rw [e3] at e4
    cases e4
    unfold Ck
    rw [if_pos ((CO (ρ := ρ) ho4).1 hy' φ a hT)]
    exact hstep φ a w hT g1 K Q fun φ' x w' f2 g2 hrx => hK _ _ _ _ (fin v h' n' φ' x w' (by rw [ho6]; exact e2) f2 g2 hrx)
  · have hn':P6 ao.g t := fun y n => (agA.2 y n).trans (hn y n)
    unfold Ck
    rw [if_neg (by rw [(CO (ρ := ρ) ho4).2 hn' φ a hT]; simp)]
    exact hK _ _ _ _ (fin Ay _ _ φ undef w (by rw [ho6]; exact e2) (Fr.refl _ φ _ w) g1 EZ)
end
end Go.Ev

namespace Go.Ev
set_option linter.unusedVariables false
section
variable {P:Program} {ρ:Env} {B N:Nat} {ops:Array Oper} {os:List AOp} {p:Plot} {b:K4} {cf:CF} {st:Nat->St} {h:Heap} {φ0:AT} {n:K4} {w0:World}
theorem TR.congr {φ:AT} {t t':Regs} {a:Act} (hT:TR ρ N φ t a) (h:∀ q, Bg q t=Bg q t'):TR ρ N φ t' a :=
  ⟨hT.size, hT.defers, fun s q hs hq => by rw [←h q]; exact hT.at_ s q hs hq⟩
/-- When all is done. -/
theorem Inv.done (r:Rn P N ops os p cf b st) (hρ:Bo ρ) (hb0:p.HasAl->b.d = .d0) (hbn:p.HasAl->n.toN≤b.toN) (h00:(st 0).h1=(st 0).h0) (hdom:∀ q x, φ0 q=some x->q.toN<n.toN) {S:Nat->Bool} {a:Act} {w:World} {l:Nat} {φ:AT} (I:Inv P ρ B N os p b st h φ0 n w0 S a w l φ)
    (hS:∀ i, i<p.m->S i=true):Gam ρ B (st p.sk.length).h1 (st p.sk.length).n φ w∧Fr h (st p.sk.length).h1 φ0 φ n (st p.sk.length).n w0 w∧TR ρ N φ (st p.sk.length).t a := by
  have hb:p.bat p.sk.length=p.bat l := by
    have h1 := Rn.bat_mono (p := p) I.le (Nat.le_refl _)
    rcases Nat.lt_or_ge (p.bat l) (p.bat p.sk.length) with h' | h'
    · obtain ⟨l1, e, q1, q2, q3⟩ := Rn.ef_at (p := p) (Nat.le_refl _) h'
      obtain ⟨hm, hpe⟩ := r.good.uniq l1 _ e q2 rfl
      have hse:p.sort e=3 := by
        rcases r.good.pos e hm with ⟨_, hh⟩ | ⟨j, hh, _⟩ | ⟨hh | ⟨_, _, hh⟩, _⟩
        · exact hh
        · rw [hpe, q2] at hh; cases hh
        · rw [hpe, q2] at hh; cases hh
        · rw [hpe, q2] at hh; cases hh
      have := (I.effs e hm hse).1 (hS e hm)
      rw [hpe] at this; omega
    · omega
  obtain ⟨g1, f1⟩ := I.shown r hρ hb0 hbn h00 hdom (Nat.le_refl _) hb fun j d hj _ _ _ => hS j hj
  obtain ⟨t, hR, hT⟩ := I.regs
  refine ⟨g1, f1, hT.congr fun q => ?_⟩
  by_cases hw:∃ w, w<p.m∧p.dst w=some q
  · obtain ⟨w, hw, hd⟩ := hw
    exact ((hR q).1 w hw hd).1 (hS w hw)
  · have hn:∀ w, w<p.m->p.dst w≠some q := fun w h1 h2 => hw ⟨w, h1, h2⟩
    rw [(hR q).2 hn]
    exact (r.reg_free hn (Nat.le_refl _)).symm
def left (m:Nat) (listed:Array Bool):Nat := ((List.range m).filter fun i => !listed.getD i true).length
theorem V5 {m:Nat} {listed:Array Bool} {i:Nat} (hl:listed.size=m) (hi:i<m) (h:listed.getD i true=false):left m (listed.setIfInBounds i true)<left m listed := by
  unfold left
  have e:((List.range m).filter fun j => !(listed.setIfInBounds i true).getD j true)=((List.range m).filter fun j => !listed.getD j true).filter fun j => !Nat.beq i j := by
    rw [List.filter_filter]
    refine List.filter_congr fun j hj => ?_
    by_cases e:i=j
    · subst e; simp [Array.getD_eq_getD_getElem?, Array.getElem?_setIfInBounds, show i<listed.size by omega]
    · have hb:Nat.beq i j=false := by cases hx:Nat.beq i j with
        | false => rfl
        | true => exact absurd (Nat.eq_of_beq_eq_true hx) e
      simp [Array.getD_eq_getD_getElem?, Array.getElem?_setIfInBounds, e, hb]
  rw [e]
  refine List.length_filter_lt_length_iff_exists.2 ⟨i, List.mem_filter.2 ⟨List.mem_range.2 hi, by rw [h]; rfl⟩, by simp⟩
theorem Inv.step (r:Rn P N ops os p cf b st) (hρ:Bo ρ) (hcf:E9 P ρ B cf) (hb0:p.HasAl->b.d = .d0) (hbn:p.HasAl->n.toN≤b.toN) (h00:(st 0).h1=(st 0).h0) (hdom:∀ q x, φ0 q=some x->q.toN<n.toN) {S:Nat->Bool} {a:Act} {w:World} {l:Nat} {φ:AT} (I:Inv P ρ B N os p b st h φ0 n w0 S a w l φ)
    {i:Nat} (hi:i<p.m) (hS:S i=false) (hd:∀ d∈p.deps i, S d=true) {K:Act->World->Prop} {Q:Exit->Act->World->Prop} (hK:∀ a' w' l' φ', Inv P ρ B N os p b st h φ0 n w0 (GT S i) a' w' l' φ'->K a' w'):wpOp P ops Q i K a w := by
  rcases r.good.pos i hi with ⟨hp, hs⟩ | ⟨d, hp, hs⟩ | ⟨hp | ⟨_, _, hp⟩, hs⟩
  · exact I.step_ef r hρ hcf hb0 hbn h00 hdom hi hS hd hp hs hK
  · exact I.step_al r hρ hb0 hbn hi hS hd hp hs hK
  · exact I.step_rd r hρ hi hS hd hp hs hK
  · exact I.step_rn r hρ h00 hi hS hd hp hs hK
theorem Inv.congrS {S S':Nat->Bool} {a:Act} {w:World} {l:Nat} {φ:AT} (I:Inv P ρ B N os p b st h φ0 n w0 S a w l φ) (he:∀ i, S i=S' i):Inv P ρ B N os p b st h φ0 n w0 S' a w l φ := by
  have:S=S' := funext he
  subst this; exact I
theorem Rz (r:Rn P N ops os p cf b st) (hρ:Bo ρ) (hcf:E9 P ρ B cf) (hb0:p.HasAl->b.d = .d0) (hbn:p.HasAl->n.toN≤b.toN) (h00:(st 0).h1=(st 0).h0) (hdom:∀ q x, φ0 q=some x->q.toN<n.toN) {Q:Exit->Act->World->Prop}
    (hQ:∀ φ' a' w', Fr h (st p.sk.length).h1 φ0 φ' n (st p.sk.length).n w0 w'->Gam ρ B (st p.sk.length).h1 (st p.sk.length).n φ' w'->TR ρ N φ' (st p.sk.length).t a'->Q .normal a' w') :
    ∀ (fuel:Nat) (listed:Array Bool) (a:Act) (w:World) (l:Nat) (φ:AT), listed.size=p.m->left p.m listed≤fuel->Inv P ρ B N os p b st h φ0 n w0 (fun i => listed.getD i false) a w l φ->wpAny P .any ops Q fuel listed a w := by
  have hsz := r.size
  have rdy:∀ (listed:Array Bool) (i:Nat), listed.size=p.m->i<p.m->listed.getD i false=false->(∀ d∈p.deps i, listed.getD d false=true)->i∈Region.ready .any ops listed := fun listed i hl hi h1 h2 => by
    obtain ⟨o, ao, ho1, _, _, _, _, _, _, ho8⟩ := r.get hi
    refine mem_ready.2 ⟨by simpa [Array.getD_eq_getD_getElem?, Array.getElem?_eq_getElem (show i<listed.size by omega)] using h1, o, ho1, fun e he hb => h2 e.on ?_⟩
    rw [ho8]
    exact List.mem_filterMap.2 ⟨e, by simpa using he, by rw [if_pos hb]⟩
  have all:∀ (listed:Array Bool), listed.size=p.m->Region.ready .any ops listed=[]->∀ i, i<p.m->listed.getD i false=true := fun listed hl hr i => by
    induction i using Nat.strongRecOn with
    | _ i ih =>
      intro hi
      cases hx:listed.getD i false with
      | true => rfl
      | false =>
        have := rdy listed i hl hi hx fun d hd => ih d (r.good.deps i d hi hd) (by have := r.good.deps i d hi hd; omega)
        rw [hr] at this; cases this
  intro fuel
  induction fuel with
  | zero =>
    intro listed a w l φ hl hc I
    have hr:Region.ready .any ops listed=[] := by
      cases hx:Region.ready .any ops listed with
      | nil => rfl
      | cons i rs =>
        have hi:i∈Region.ready .any ops listed := by rw [hx]; exact List.mem_cons_self ..
        obtain ⟨h1, o, ho, _⟩ := mem_ready.1 hi
        have hlt:i<p.m := by rw [hsz]; exact (Array.getElem?_eq_some_iff.1 ho).1
        have:i∈(List.range p.m).filter fun i => !listed.getD i true := List.mem_filter.2 ⟨List.mem_range.2 hlt, by rw [h1]; rfl⟩
        have := List.length_pos_of_mem this
        unfold left at hc; omega
    obtain ⟨g1, f1, T1⟩ := I.done r hρ hb0 hbn h00 hdom fun i hi => all listed hl hr i hi
    exact ⟨hr, hQ φ a w f1 g1 T1⟩
  | succ fuel ih =>
    intro listed a w l φ hl hc I
    refine ⟨fun hr => ?_, fun i hi => ?_⟩
    · obtain ⟨g1, f1, T1⟩ := I.done r hρ hb0 hbn h00 hdom fun i hi => all listed hl hr i hi
      exact hQ φ a w f1 g1 T1
    · obtain ⟨h1, o, ho, h2⟩ := mem_ready.1 hi
      have hlt:i<p.m := by rw [hsz]; exact (Array.getElem?_eq_some_iff.1 ho).1
      obtain ⟨o', ao, ho1, _, _, _, _, _, _, ho8⟩ := r.get hlt
      rw [ho] at ho1; cases ho1
      have hil:i<listed.size := by omega
      have h1':listed.getD i false=false := by simpa [Array.getD_eq_getD_getElem?, Array.getElem?_eq_getElem hil] using h1
      refine I.step r hρ hcf hb0 hbn h00 hdom hlt h1' (fun d hd => ?_) fun a' w' l' φ' I' => ?_
      · rw [ho8] at hd
        obtain ⟨e, he, hb⟩ := List.mem_filterMap.1 hd
        split at hb
        · rename_i hbb; cases hb; exact h2 e (by simpa using he) hbb
        · cases hb
      · refine ih (listed.setIfInBounds i true) a' w' l' φ' (by simp [hl]) ?_ (I'.congrS fun j => ?_)
        · have := V5 hl hlt h1; omega
        · by_cases e:i=j
          · subst e; rw [Hr]; simp [Array.getD_eq_getD_getElem?, Array.getElem?_setIfInBounds, hil]
          · rw [Dj e]; simp [Array.getD_eq_getD_getElem?, Array.getElem?_setIfInBounds, e]
/-- A drawn region whose items run in one order: whatever the order. -/
theorem Rm (hρ:Bo ρ) (hm:P.follows .mixedOrders=true) (hcf:E9 P ρ B cf) (r:Rn P N ops os p cf b st) {id:Nat} {t:Regs} {n0:K4} (s0:st 0=⟨t, h, h, n0⟩) (hb0:p.HasAl->b.d = .d0) (hbn:p.HasAl->n.toN≤b.toN)
    (hroom:p.HasAl->b.toN+16≤n0.toN) (hn0:n.toN≤n0.toN) {φ:AT} {a:Act} {w:World} (hT:TR ρ N φ t a) (g:Gam ρ B h n φ w) {Q:Exit->Act->World->Prop}
    (hQ:∀ φ' a' w', Fr h (st p.sk.length).h1 φ φ' n (st p.sk.length).n w w'->Gam ρ B (st p.sk.length).h1 (st p.sk.length).n φ' w'->TR ρ N φ' (st p.sk.length).t a'->Q .normal a' w'):(Code.region id ops true).wp P Q a w := by
  have hdom:∀ q x, φ q=some x->q.toN<n.toN := fun q x hq => g.dom q x hq
  have h00:(st 0).h1=(st 0).h0 := by rw [s0]
  refine wp_region_any hm (Rz (B := B) (φ0 := φ) (n := n) (w0 := w) (h := h) r hρ hcf hb0 hbn h00 hdom (Q := Q) (fun φ' a' w' f1 g1 T1 => hQ φ' a' w' f1 g1 T1) _ _ a _ 0 φ (by rw [Array.size_replicate, r.size]) ?_ ?_)
  · unfold left
    refine Nat.le_trans (List.length_filter_le _ _) ?_
    rw [List.length_range, r.size]; exact Nat.le_refl _
  · have hS:∀ i, (Array.replicate ops.size false).getD i false=false := fun i => by
      rw [Array.getD_eq_getD_getElem?, Array.getElem?_replicate]; split <;> rfl
    exact {
      le := Nat.zero_le _
      closed := fun i d hi hs _ => by rw [hS] at hs; cases hs
      effs := fun e he _ => by rw [hS]; simp [Plot.bat]
      regs := ⟨t, fun q => ⟨fun w' _ _ => ⟨fun hs => absurd hs (by show ¬ ((Array.replicate ops.size false).getD w' false=true); rw [hS]; simp), fun _ => (by rw [s0])⟩, fun _ => (by rw [s0])⟩, hT⟩
      gam := by rw [s0]; exact (g.nx (n' := n0) hn0).drew
      fr := by
        rw [s0]
        exact ⟨AT.le_refl φ, fun _ _ h => .inl h, hn0, rfl, rfl, rfl, Nat.le_refl _, fun _ _ _ => rfl, fun _ _ _ _ h => .inl h, fun _ _ h => h⟩
      room := by rw [s0]; exact hroom
      kept := fun i d _ _ _ _ hs => by rw [hS] at hs; cases hs
      free := fun i d hi hp _ => by
        have hA:p.HasAl := ⟨i, d, hi, hp⟩
        cases hx:φ (Eo b d) with
        | none => rfl
        | some x => have := hdom _ _ hx; rw [IH d (hb0 hA)] at this; have := hbn hA; omega }
theorem RO {n b n0:K4} (hbn:b.toN=(n.a.toN*256+n.b.toN*16+n.c.toN+1)*16) (hb0:b.d = .d0) (hn0:n0.toN=(b.a.toN*256+b.b.toN*16+b.c.toN+1)*16):n.toN≤b.toN∧n0.toN=b.toN+16 := by
  obtain ⟨a1, a2, a3, a4⟩ := n
  obtain ⟨b1, b2, b3, b4⟩ := b
  simp only [K4.toN] at hbn hn0 hb0 ⊢
  subst hb0
  have := D.toN_lt a4
  simp only [D.toN] at *
  omega
theorem Adb {p:Plot} (hp:p.Good) (h:p.sk.any SI.isAl=false):¬ p.HasAl := by
  rintro ⟨i, d, _, hx⟩
  have:p.sk.any SI.isAl=true := List.any_eq_true.2 ⟨_, List.mem_of_getElem? hx, rfl⟩
  rw [h] at this; cases this
end
end Go.Ev

namespace Go.Ev
set_option linter.unusedVariables false
section
variable {P:Program} {ρ:Env}
def SN:Oper := { dst := some 0, op := .makeMap 0 none, type := 0, pos := "", after := #[], guard := none }
theorem HU {f:FuncId} {fn:Func} {c:Code} {xs:Array Value} {w:World} {R:Value->World->Prop} (hf:P.funcs[f]? = some fn) (hb:fn.body=some c) (hn:fn.name ≠ "runtime.NumGoroutine") (h:Le P f xs w R) :
    Calls P f xs w fun | .returned v, w' => R v w' | _, _ => False := by
  have := h SN { tmps := #[undef], defers := [] } (fun a w' => R (a.tmps.getD 0 undef) w') (fun _ _ _ => False) (fun x w' hr => by simpa [SN, Act.put] using hr)
  have hcf:(callFunc f xs).run P w = .ok (.enter f xs) w := by simp [callFunc, hf, hn, hb]
  rw [hcf] at this
  refine Calls.mono this fun e w' he => ?_
  cases e with
  | returned v => simpa [SN, Act.put] using he
  | panicked ch => exact he
  | outgrown => obtain ⟨_, _, h⟩ := he; exact h
/-- The blocks that stay are there. -/
def Vm (ρ:Env) (w:World):Prop := ∀ b c e fr, ρ.gl b=some (c, e, fr)->b<w.heap.size∧w.heap[b]? = some (.cells c e fr)
theorem RG (w:World) (n:K4) (hg:Vm ρ w):Gam ρ w.heap.size AJ n (fun _ => none) w where
  base := Nat.le_refl _
  glob := hg
  dom := fun p x h => by cases h
  blk := fun p b s t h => by cases h
  obj := fun p o b s t _ h => by cases h
  sep := fun p q o o' b s t s' t' _ _ _ h => by cases h
  sup := fun p q o o' b s t s' t' _ _ _ h => by cases h
theorem NR {h h1:Heap} {φ':AT} {n n1:K4} {w w':World} (f:Fr h h1 (fun _ => none) φ' n n1 w w'):Go.RowKit.Below w.heap.size w w' :=
  ⟨f.os, f.tape, f.out, f.size, fun k hk => f.old k hk fun p s t hp => by cases hp⟩
end
end Go.Ev

namespace Go.Ev
set_option linter.unusedVariables false
section
variable {P:Program} {ρ:Env} {B:Nat}
/-- A function without a body whose row in the table leaves the world as it is. -/
structure Bare (P:Program) (f:FuncId) (e:Array Value->Sem Value):Prop where
  ex:∃ fn, P.funcs[f]? = some fn∧(fn.name == "runtime.NumGoroutine")=false∧fn.body.isNone=true∧Extern.findNext fn=none∧Extern.find fn=some e
theorem Bare.run {f:FuncId} {e:Array Value->Sem Value} (b:Bare P f e) {xs:Array Value} {w w':World} {x:Value} (h:(e xs).run P w = .ok x w'):(callFunc f xs).run P w = .ok (.value x) w' := by
  obtain ⟨fn, h1, h2, h3, h4, h5⟩ := b.ex
  have h2':fn.name ≠ "runtime.NumGoroutine" := by simpa using h2
  have h3':fn.body=none := by simpa using h3
  simp [callFunc, h1, h2', h3', h4, h5, h]
theorem Bare.runs {f:FuncId} {e:Array Value->Sem Value} (b:Bare P f e) {xs:Array Value} {w w':World} {x:Value} (h:(e xs).run P w = .ok x w') {R:Value->World->Prop} (hR:R x w'):Le P f xs w R := by
  intro o a K Q hK
  rw [b.run h]
  exact hK _ _ hR
section
variable {v:V} {h:Heap} {n:K4}
theorem Qm {c:Bool} {t:R} {s:String} (hx:br c t (.fail s) = .rv v h n):c=true∧t = .rv v h n := by
  cases c
  · cases hx
  · exact ⟨rfl, hx⟩
theorem OJ {x:V} {κ:Nat->Nat->R} (hx:Be x κ = .rv v h n):∃ m c, x = .str m c∧κ m c = .rv v h n := by
  cases x with
  | str m c => exact ⟨m, c, rfl, hx⟩
  | _ => cases hx
theorem Ti {x:V} {κ:IntKind->Nat->R} (hx:GS x κ = .rv v h n):∃ k r, x = .int k r∧κ k r = .rv v h n := by
  cases x with
  | int k r => exact ⟨k, r, rfl, hx⟩
  | _ => cases hx
end
def Lg (r:Nat) (m:Nat):Nat->Nat->(Nat->R)->R->R :=
  @Nat.rec (fun _ => Nat->Nat->(Nat->R)->R->R) (fun _ _ _ κn => κn)
    (fun _ ih c i κ κn => br (Nat.beq (lo c 1) r) (κ i) (Ab (sh c 1) fun d => Ab (Nat.succ i) fun j => ih d j κ κn)) m
theorem UQ (b:UInt8) (l:List UInt8):∀ (i:Nat) (κ:Nat->R) (κn:R), Lg b.toNat l.length (Au l) i κ κn=if Lib.indexByte l b = -1 then κn else κ (i+(Lib.indexByte l b).toNat) := by
  induction l with
  | nil => intro i κ κn; rfl
  | cons x l ih =>
    intro i κ κn
    have hx := x.toNat_lt
    have e0:lo (Au (x::l)) 1=x.toNat := by rw [E0]; simp only [Au]; omega
    have e1:sh (Au (x::l)) 1=Au l := by rw [Fv]; simp only [Au]; omega
    have e2:Lg b.toNat (x::l).length (Au (x::l)) i κ κn=br (Nat.beq x.toNat b.toNat) (κ i) (Lg b.toNat l.length (Au l) (i+1) κ κn) := by
      have:Lg b.toNat (x::l).length (Au (x::l)) i κ κn=br (Nat.beq (lo (Au (x::l)) 1) b.toNat) (κ i) (Ab (sh (Au (x::l)) 1) fun d => Ab (Nat.succ i) fun j => Lg b.toNat l.length d j κ κn) := rfl
      rw [this, e0, e1, A9, A9]
    rw [e2]
    unfold Lib.indexByte
    by_cases hb:x=b
    · subst hb
      have:Nat.beq x.toNat x.toNat=true := Nat.beq_refl _
      rw [this]; simp [br]
    · have h1:Nat.beq x.toNat b.toNat=false := by
        cases h:Nat.beq x.toNat b.toNat with
        | false => rfl
        | true => exact absurd (UInt8.toNat_inj.1 (Nat.eq_of_beq_eq_true h)) hb
      have h2:(x == b)=false := by simpa using hb
      rw [h1, Aq, ih]
      have hn := Lib.indexByte_ge l b
      simp only [h2, Bool.false_eq_true, if_false]
      by_cases hm:Lib.indexByte l b = -1
      · simp [hm]
      · have h3:(Lib.indexByte l b == -1)=false := by simpa using hm
        rw [if_neg hm, h3]
        simp only [Bool.false_eq_true, if_false]
        rw [if_neg (by omega)]
        congr 1; omega
/-- internal/bytealg.IndexByteString. -/
def CH:Nq := fun args h n =>
  @List.rec V (fun _ => R) (.fail "") (fun x l _ => @List.rec V (fun _ => R) (.fail "") (fun y l _ => @List.rec V (fun _ => R)
    (Be x fun m c => GS y fun k r => br (Bk k .u8) (br (Nat.ble m 1000000000) (Lg r m c 0 (fun i => .rv (.int .i64 i) h n) (.rv (.int .i64 18446744073709551615) h n)) (.fail "")) (.fail "")) (Cb "") l) l) args
theorem I8 {f:FuncId} (b:Bare P f Extern.BytealgIndexByte.indexByte):Nb P ρ B f CH := by
  intro args h n v h1 n1 hx φ w xs g hr
  rcases args with _ | ⟨x, _ | ⟨y, _ | ⟨z, l⟩⟩⟩ <;> try (cases hx; done)
  have hx:(Be x fun m c => GS y fun k r => br (Bk k .u8) (br (Nat.ble m 1000000000) (Lg r m c 0 (fun i => .rv (.int .i64 i) h n) (.rv (.int .i64 18446744073709551615) h n)) (.fail "")) (.fail "")) = .rv v h1 n1 := hx
  obtain ⟨m, c, rfl, hx⟩ := OJ hx
  obtain ⟨k, r, rfl, hx⟩ := Ti hx
  obtain ⟨hk, hx⟩ := Qm hx
  have := AL.1 hk
  subst this
  obtain ⟨hm, hx⟩ := Qm hx
  obtain ⟨x1, ys, hxs, hr1, hr⟩ := Aw.1 hr
  obtain ⟨x2, ys, rfl, hr2, hr⟩ := Aw.1 hr
  obtain rfl := AF.1 hr
  obtain ⟨s, rfl, hsz, hc⟩ := (by simpa only [As] using hr1:∃ s:ByteArray, x1 = .string s∧s.size=m∧Au s.data.toList=c)
  obtain ⟨hlt, rfl⟩ := (by simpa only [As] using hr2:r<Mk .u8∧x2 = .int .u8 (C9 .u8 r))
  have hlt:r<256 := hlt
  have hdec:C9 .u8 r=(r:Int) := Ao (by show r<256; exact hlt)
  obtain rfl:xs = #[.string s, .int .u8 (C9 .u8 r)] := by cases xs; simp at hxs; simp [hxs]
  rw [hdec]
  refine b.runs (Lib.run_indexByteString s r w) ⟨φ, ?_⟩
  have hb:((r:Int).toNat.toUInt8).toNat=r := by
    simp only [Int.toNat_natCast]
    exact UInt8.toNat_ofNat_of_lt' (show r<2 ^ 8 from hlt)
  have hl:s.data.toList.length=m := by rw [←hsz]; rfl
  have key := UQ ((r:Int).toNat.toUInt8) s.data.toList 0 (fun i => .rv (.int .i64 i) h n) (.rv (.int .i64 18446744073709551615) h n)
  rw [hb, hl, hc] at key
  rw [key] at hx
  have hge := Lib.indexByte_ge s.data.toList ((r:Int).toNat.toUInt8)
  have hle:Lib.indexByte s.data.toList ((r:Int).toNat.toUInt8)<(m:Int)∨Lib.indexByte s.data.toList ((r:Int).toNat.toUInt8) = -1 := by
    rw [←hl]
    generalize s.data.toList=l
    generalize ((r:Int).toNat.toUInt8)=b
    induction l with
    | nil => right; rfl
    | cons x l ih =>
      have := Lib.indexByte_ge l b
      unfold Lib.indexByte
      simp only [List.length_cons]
      split
      · left; omega
      · split
        · right; rfl
        · rename_i h1 h2
          have:Lib.indexByte l b ≠ -1 := by simpa using h2
          left; omega
  have hm := Aa.1 hm
  revert hx
  generalize Lib.indexByte s.data.toList ((r:Int).toNat.toUInt8)=q at hge hle
  intro hx
  by_cases hq:q = -1
  · rw [if_pos hq] at hx
    simp only [R.rv.injEq] at hx
    obtain ⟨rfl, rfl, rfl⟩ := hx
    refine ⟨Fr.refl _ _ _ _, g, ?_⟩
    simp only [As]
    subst hq
    exact ⟨by decide, by simp [C9, Hk, Mk]⟩
  · rw [if_neg hq] at hx
    simp only [R.rv.injEq] at hx
    obtain ⟨rfl, rfl, rfl⟩ := hx
    refine ⟨Fr.refl _ _ _ _, g, ?_⟩
    simp only [As]
    have:q<(m:Int) := by
      rcases hle with h | h
      · exact h
      · exact absurd h hq
    refine ⟨by simp only [Mk]; omega, ?_⟩
    rw [Ao (by simp only [Hk]; omega)]
    congr 1; omega
end
end Go.Ev

namespace Go.Ev
open Go.RowKit Go.WideShapes Go.ChangeShapes
set_option linter.unusedVariables false
def XF (v:V):Bool :=
  @V.rec (fun _ => Bool) (fun _ => Unit) (fun _ _ => false) (fun b => b) (fun _ _ => false) (fun _ _ _ _ _ _ => false) (fun _ _ => false) (fun _ _ => false) (fun _ => false) (fun _ => false) (fun _ _ _ => false) (fun _ _ => false) (fun _ => false) () (fun _ _ _ _ => ()) v
/-- The call says true. -/
def Sj (r:R):Bool := @R.rec (fun _ => Bool) (fun _ _ _ _ => false) (fun v _ _ => XF v) (fun _ => false) (fun _ _ _ _ => false) r
theorem U4 {r:R} (h:Sj r=true):∃ h1 n1, r = .rv (.bool true) h1 n1 := by
  cases r with
  | ok e t h n => cases h
  | fail w => cases h
  | both a b => cases h
  | rv v h1 n1 =>
    cases v with
    | bool b => exact ⟨h1, n1, by rw [show b=true from h]⟩
    | _ => cases h
def Xu:K4 := ⟨.d0, .d0, .d0, .d0⟩
/-- A law's last step, where of the world behind the call it is E1 that nothing that was there has turned. -/
theorem Lk {H:Type} {enc:TypeId×Value->H} {P:Program} {f:Func} {s:ChangeSpec} {apart fresh handsOn again:Bool} {W W':World} {args:Array Value} {v:Value} {ds gs:List (DataW H)} {before pa pv:List MemPlace}
    (hW:DataW.Whole enc P f.params.toList s.vars apart W args.toList ds gs before)
    (hres:∀ (b:Nat) (sp:Nat->Bool) (hd:Bool), DataW.TrodAll enc P W' b sp hd f.resultTypes.toList (v.resultList f.resultTypes.size) (s.fn H (ds++gs)).results [])
    (hargs:∀ sp:Nat->Bool, (∀ p∈before, sp p.block=true)->DataW.TrodAll enc P W' 0 sp true f.params.toList args.toList (s.fn H (ds++gs)).args pa)
    (hvars:∀ sp:Nat->Bool, (∀ p∈before, sp p.block=true)->DataW.TrodVars enc P W' sp s.vars (s.fn H (ds++gs)).vars pv)
    (hps:before=pa++pv) (hb:Below W.heap.size W W')
    (hok:∀ (j:Nat) (t:TypeId) (r:Value), f.resultTypes[j]? = some t->(v.resultList f.resultTypes.size)[j]? = some r->Value.okWide P W' .any 0 t r) :
    s.post enc P f apart fresh handsOn again W args v W' := by
  have hlt := fun p (hp:p∈before) => hW.lt p hp
  have hold:∀ p∈before, (fun b => decide (b<W.heap.size)) p.block=true := fun p hp => decide_eq_true (hlt p hp)
  refine ⟨ds, gs, before, [], pa, pv, hW, hres _ _ _, hargs _ hold, hvars _ hold, World.keptBut_mono (fun p hp => ⟨hp, Or.inr (by rw [hps] at hp; exact List.mem_append.1 hp)⟩) (hb.frame (· ∈ before)), fun _ => ?_⟩
  obtain ⟨_, _, _, _, _, hz, hn⟩ := hW
  refine ⟨hok, _, _, ([]++pa)++pv, ⟨[]++pa, pv, trodAll_append (hargs _ (fun _ _ => rfl)) (hres _ _ _), hvars _ (fun _ _ => rfl), rfl, fun b off hp => ?_, fun ha => ?_⟩, fun p hp _ => ?_⟩
  · have hin:MemPlace.cell b off∈before := by rw [hps]; simpa using hp
    rw [hb.frozen (hlt _ hin)]; exact hz b off hin
  · have := hn ha; rw [hps] at this; simpa using this
  · rw [hps]; simpa using hp
end Go.Ev
