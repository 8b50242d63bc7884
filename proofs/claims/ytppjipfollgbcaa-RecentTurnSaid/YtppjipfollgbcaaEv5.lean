/- AN EVALUATOR OF THE MODEL OF Go, PROVED SOUND, PART 5: what it says of a call holds in every world, on every tape. Conditions: none of its own; each theorem bears its premises. -/
import Derived.Test.YtppjipfollgbcaaEv4
set_option linter.unusedSimpArgs false
set_option linter.unusedVariables false
namespace Go.Ev
set_option linter.unusedVariables false
set_option maxRecDepth 100000
open Go.RowKit
noncomputable def pSortKN (g : Nat) : Prim := fun args h n => unK args fun x l => asSl x (unK l fun y l => nlK l (.rv (.tup []) h n)) fun _ _ _ _ _ _ => pSortK g args h n
def SortNilK (P : Program) (f : FuncId) : Prop := ∀ (p : Option Addr) (cap : Nat) (fv : Value) (w : World), Calls P f #[.slice p 0 cap, fv] w fun e w' => e = .returned (.tuple #[]) ∧ w' = w
theorem sortKN_ok {P : Program} {ρ : Env} {B : Nat} {f g : FuncId} {fn gn : Func} {ty kt et : TypeId} (hf : P.funcs[f]? = some fn) (hb : fn.body.isSome = true) (hn : (fn.name == "runtime.NumGoroutine") = false) (hS : SortFnK P f) (hN : SortNilK P f) (hgf : P.funcs[g]? = some gn) (hgb : gn.body.isSome = true) (hgn : (gn.name == "runtime.NumGoroutine") = false) (hC : CmpFnK P g ty)
    (ht : P.underlying ty = some (.map kt et)) (hp : cKey P kt = some (.ks [.i, .s])) : PrimOK P ρ B f (pSortKN g) := by
  intro args h n v h1 n1 hx φ w xs gm hr
  have hg : (pSortKN g args h n).good := good_of hx
  unfold pSortKN at hx hg
  obtain ⟨x, l, rfl, q1⟩ := unK_good hg
  rw [q1] at hx hg
  rcases asSl_good hg with ⟨rfl, q4⟩ | ⟨p, off, len, cap, ex, esz, rfl, q4⟩
  · rw [q4] at hx hg
    obtain ⟨y, l, rfl, q2⟩ := unK_good hg
    rw [q2] at hx hg
    obtain ⟨rfl, q3⟩ := nlK_good hg
    rw [q3] at hx
    cases hx
    obtain ⟨X, ys, hX, r0, hr⟩ := rels_cons.1 hr
    obtain ⟨Y, ys, rfl, r1, hr⟩ := rels_cons.1 hr
    obtain rfl := rels_nil.1 hr
    have e0 := rel_nil r0
    obtain rfl : xs = #[.slice none 0 0, Y] := by cases xs; simp at hX; simp [hX, e0, nilOf]
    obtain ⟨cd, hcd⟩ := Option.isSome_iff_exists.1 hb
    exact runs_of_calls hf hcd hn ((hN none 0 Y w).mono fun e w' ⟨he, hw⟩ => ⟨_, he, φ, by subst hw; exact ⟨Fr.refl h φ n _, gm, rel_unit⟩⟩)
  · rw [q4] at hx
    exact sortK_ok hf hb hn hS hgf hgb hgn hC ht hp _ h n v h1 n1 hx φ w xs gm hr
section
variable {h : Heap} {n n' p : K4}
theorem app2_nil_at {a b : V} {κ : KV} (hn : ∀ k : K4 → R, n.nx k = k n') (hp : hget p h = some (.c (.l [a, b]) false none)) :
    v_app 2 24 (.nil .sl) (.sl p 0 1 1 true 2) h n κ = κ (.sl n 0 1 1 false 2) (hputS n h (some (.c (.l [a, b]) false none))) n' := by
  show obK p h (fun cs _ _ => forceN (Nat.mul 1 2) fun m => rangeC cs 0 m fun y => appendR 2 24 (.nil .sl) 1 y h n κ) = _
  rw [obK_at hp, forceN_eq]
  show newR h n (.c (.l [a, b]) false none) (fun h' n' => κ (.sl n 0 1 1 false 2) h' n') = _
  rw [newR_at hn]
theorem app2_sl_at {q : K4} {xs : List V} {k : Nat} {prev : Option K4} {a b : V} {κ : KV} (hn : ∀ k : K4 → R, n.nx k = k n') (hp : hget p h = some (.c (.l [a, b]) false none)) (hq : hget q h = some (.c (.l xs) false prev)) (hx : xs.length = 2 * k) (hl : k ≤ 1000000000) :
    v_app 2 24 (.sl q 0 k k false 2) (.sl p 0 1 1 true 2) h n κ =
      κ (.sl n 0 (k + 1) (k + 1) false 2) (hputS n (hputS q (killS prev h) (some (.c (.l xs) true none))) (some (.c (.l (xs ++ [a, b])) false (some q)))) n' := by
  show obK p h (fun cs _ _ => forceN (Nat.mul 1 2) fun m => rangeC cs 0 m fun y => appendR 2 24 (.sl q 0 k k false 2) 1 y h n κ) = _
  rw [obK_at hp, forceN_eq]
  show forceN (Nat.add k 1) (fun need => br (Nat.ble need k) _ _) = _
  rw [forceN_eq]
  have h1 : Nat.ble (Nat.add k 1) k = false := ble_false (by show k < k + 1; omega)
  have h2 : Nat.ble (Nat.mul (Nat.add (Nat.mul 4 (Nat.add k 1)) 4096) 24) 281474976710656 = true := ble_iff.2 (by show (4 * (k + 1) + 4096) * 24 ≤ 281474976710656; omega)
  rw [h1, h2]
  show obR q h _ = _
  rw [obR_at hq, forceN_eq, show Nat.mul k 2 = xs.length by show k * 2 = _; omega, rangeC_at]
  show appK xs [a, b] (fun zs => _) = _
  rw [appK_eq]
  show forceN (Nat.add 0 xs.length) (fun j => rangeC (.l xs) 0 j _) = _
  rw [forceN_eq, show Nat.add 0 xs.length = xs.length by show 0 + xs.length = _; omega, rangeC_at, killK_eq]
  show hput q (killS prev h) (some (.c (.l xs) true none)) _ = _
  rw [hput_eq, newR_at hn]
theorem v_st1_sl {x : V} {q : K4} {a b c : Nat} {ex : Bool} {esz : Nat} {κ : Heap → R} (hp : hget p h = some (.c (.l [x]) false none)) : v_st1 (.ptr p 0) (.sl q a b c ex esz) h κ = κ (hputS p h (some (.c (.l [.sl q a b c ex esz]) false none))) := by
  show s1K h p 0 (.sl q a b c ex esz) κ = _
  rw [s1K_eq, storeR_eq]
  unfold storeK
  rw [obK_at hp, br_false, splC_all (xs := [x]) (ys := [.sl q a b c ex esz]) rfl, killK_eq, hput_eq]; rfl
theorem part2_at {a b x y : V} {κ : List V → R} : v_part 0 2 (.agg [a, b]) [x, y] κ = κ [a, b] := rfl
theorem tcallK_to {κ : KV} {Φ : R → Prop} : ∀ {r : R}, r.sat (fun x => ∃ v h n, x = .rv v h n ∧ (κ v h n).sat Φ) → (tcallK r κ).sat Φ
  | .fail _, h => h.elim
  | .both a b, h => ⟨tcallK_to h.1, tcallK_to h.2⟩
  | .ok _ _ _ _, h => by obtain ⟨v, h, n, e, _⟩ := h; cases e
  | .rv _ _ _, h => by obtain ⟨v, h, n, e, hs⟩ := h; cases e; exact hs
end
noncomputable def uOf (es : List (V × V)) (t m c : Nat) : Nat := match lookF t m c es with
  | some (.int _ u) => u
  | _ => 0
noncomputable def itmE (es : List (V × V)) (e : V × V) : Itm := match e.1 with
  | .agg [.int _ t, .str m c] => ⟨uOf es t m c, t, m, c⟩
  | _ => ⟨0, 0, 0, 0⟩
theorem itmE_at {es : List (V × V)} {k : IntKind} {t m c : Nat} {x : V} : itmE es (.agg [.int k t, .str m c], x) = ⟨uOf es t m c, t, m, c⟩ := rfl
theorem gathK_at {es : List (V × V)} (hS : ∀ e ∈ es, Shaped e) : ∀ {ks : List Itm} {κ : List Itm → R}, (∀ x ∈ ks, ItmOK es x) → gathK es ks.length (flatI ks) κ = κ ks
  | [], κ, _ => rfl
  | ⟨u, t, m, c⟩ :: ks, κ, h => by
    obtain ⟨h1, h2, h3, h4⟩ := h _ (List.mem_cons_self ..)
    show br (kbeq .u32 .u32) (br (Nat.ble (Nat.succ t) 4294967296) (br (Nat.ble (Nat.succ c) (Nat.pow 256 m))
      (lookK (.ks [.i, .s]) (.agg [.int .u32 t, .str m c]) es (fun r => asI r fun k u => br (kbeq k .i64) (br (Nat.ble (Nat.succ u) 4611686018427387904) (gathK es ks.length (flatI ks) fun zs => κ (⟨u, t, m, c⟩ :: zs)) (.fail "a great number")) (.fail "kinds")) (.fail "absent")) (.fail "a text")) (.fail "a number")) (.fail "kinds") = _
    rw [kbeq_iff.2 rfl, br_true, ble_iff.2 h1, br_true, ble_iff.2 (show Nat.succ c ≤ Nat.pow 256 m from h2), br_true, lookK_at hS, h4]
    show br (kbeq .i64 .i64) (br (Nat.ble (Nat.succ u) 4611686018427387904) (gathK es ks.length (flatI ks) fun zs => κ (⟨u, t, m, c⟩ :: zs)) (.fail "a great number")) (.fail "kinds") = _
    rw [kbeq_iff.2 rfl, br_true, ble_iff.2 h3, br_true, gathK_at hS fun x hx => h x (List.mem_cons_of_mem _ hx)]
theorem shapeK_at : ∀ {es : List (V × V)} {κ : R}, (∀ e ∈ es, Shaped e) → shapeK es κ = κ
  | [], κ, _ => rfl
  | (k, x) :: es, κ, h => by
    obtain ⟨t, m, c, hc, hk⟩ := h (k, x) (List.mem_cons_self ..)
    have hk : k = .agg [.int .u32 t, .str m c] := hk
    subst hk
    show br (kbeq .u32 .u32) (br (Nat.ble (Nat.succ c) (Nat.pow 256 m)) (shapeK es κ) (.fail "a text")) (.fail "kinds") = _
    rw [kbeq_iff.2 rfl, br_true, ble_iff.2 (show Nat.succ c ≤ Nat.pow 256 m from hc), br_true, shapeK_at fun e he => h e (List.mem_cons_of_mem _ he)]
theorem asSl_sl {p : K4} {off len cap esz : Nat} {ex : Bool} {κ0 : R} {κ : K4 → Nat → Nat → Nat → Bool → Nat → R} : asSl (.sl p off len cap ex esz) κ0 κ = κ p off len cap ex esz := rfl
/-- The sort where what it asks is known. -/
theorem pSortK_at {g : Nat} {h : Heap} {n q cz lp pm : K4} {co lo clk : Nat} {cx lx : List V} {s1 s2 : Bool} {es : List (V × V)} {bs : List Nat} {ks : List Itm} {prev : Option K4}
    (hcz : hget cz h = some (.c (.l cx) s1 none)) (hco : cx[co]? = some (.ptr lp lo)) (hlp : hget lp h = some (.c (.l lx) s2 none)) (hlo : lx[lo]? = some (.map pm)) (hpm : hget pm h = some (.m es bs clk)) (hq : hget q h = some (.c (.l (flatI ks)) false prev))
    (hk0 : ks ≠ []) (hbig : ks.length ≤ 1000000) (hp1 : notP prev cz = true) (hp2 : notP prev lp = true) (hq1 : q ≠ cz) (hq2 : q ≠ lp) (hS : ∀ e ∈ es, Shaped e) (hok : ∀ x ∈ ks, ItmOK es x) (hst : (sortUL ks).Pairwise fun a b => a.u < b.u) :
    pSortK g [.sl q 0 ks.length ks.length false 2, .fn g [.ptr cz co]] h n = .rv (.tup []) (hputS q (killS prev h) (some (.c (.l (flatI (sortUL ks))) false none))) n := by
  have hl1 : 1 ≤ ks.length := by
    cases ks with
    | nil => exact absurd rfl hk0
    | cons => simp
  have hbq : ∀ {p r : K4}, p ≠ r → K4.beq p r = false := fun {p r} hne => by
    cases hb : K4.beq p r with
    | false => rfl
    | true => exact absurd (K4.beq_iff.1 hb) hne
  show br (Nat.beq g g) (obR cz h _) (.fail "another closure") = _
  rw [Nat.beq_refl, br_true, obR_at hcz]
  show nthK co cx _ = _
  rw [nthK_some hco]
  show obR lp h _ = _
  rw [obR_at hlp]
  show nthK lo lx _ = _
  rw [nthK_some hlo]
  show mpR pm h _ = _
  rw [mpR_at hpm]
  rw [asSl_sl, Nat.beq_refl, br_true, ble_iff.2 hl1, br_true, ble_iff.2 hbig, br_true, obR_at hq]
  rw [show notP none q = true from rfl, br_true, br_true, hp1, br_true, hp2, br_true, hbq hq1, br_false, hbq hq2, br_false, shapeK_at hS, forceN_eq]
  have hfl : Nat.mul ks.length 2 = (flatI ks).length := by rw [flatI_len]; show ks.length * 2 = _; omega
  rw [hfl, rangeC_at]
  show gathK es ks.length (flatI ks) _ = _
  rw [gathK_at hS hok, sortU_eq, strictU_of hst, flatK'_eq, storeR_eq]
  unfold storeK
  rw [obK_at hq, br_false, splC_all (xs := flatI ks) (ys := flatI (sortUL ks)) (by rw [flatI_len, flatI_len, (sortUL_perm ks).length_eq]), killK_eq, hput_eq]
noncomputable def rdA2 : Rd := fun c q x h n => v_alc (.l [(.int .u32 0), (.str 0 0)]) h n fun z1 h n => v_st 2 z1 x h fun h => v_ld q h fun z2 => v_ldn 2 z1 h fun z3 => v_part 0 2 z3 [(.int .u32 0), (.str 0 0)] fun z4 => v_bsl false 1 2 z4 h n fun z5 h n => v_app 2 24 z2 z5 h n fun z6 h n => v_st1 q z6 h fun h => .rv (.bool true) h n
noncomputable def mkR (c : CF2) (z4 : V) (t : S) (h : Heap) (n : K4) : R :=
  entK' z4 h n fun z7 h n => v_ext 0 z7 fun z8 => v_alc (.l [(iW 0), (.str 0 0)]) h n fun z9 h n => v_st 2 z9 z8 h fun h => g0 t fun za => v_ldn 2 z9 h fun zb => dclK c za [zb] h n fun zc h n => v_not zc fun zd => vif zd (rT t h n) <| nR t h n
noncomputable def mkB (c : CF2) : S → Heap → K4 → R := fun t h n => g2 t fun z4 => nxtK z4 h n fun z5 h n => v_ext 0 z5 fun z6 => vif z6 (blockX 1 (mkR c z4 t h n) fun t h n => nR t h n) <| .ok (.exit 0) t h n
noncomputable def mkeysE : Ent := .code (fun l k => unK l fun a0 l => unK l fun a1 l => nlK l <| k (.mk (.mk a0 a1 U U) Q0 Q0 Q0 Q0 Q0 Q0 Q0))
  (fun c t h n => g1 t fun z1 => v_ld z1 h fun z2 => rngK z2 h n fun z3 h n => blockX 0 (w2 t z3 fun t => loopX (mkB c) t h n) fun t h n => nR t h n) (fun t h n => .rv (.tup []) h n)
noncomputable def collE (ka : K3) : Ent := .code (fun l k => unK l fun a0 l => nlK l <| k (.mk (.mk a0 U U U) Q0 Q0 Q0 Q0 Q0 Q0 Q0))
  (fun c t h n => g0 t fun z1 => tcallK (c ka [(.nil .sl), z1] h n) fun z2 h n => w1 t z2 fun t => rT t h n) (fun t h n => g1 t fun a0 => .rv a0 h n)
noncomputable def sortedE (kc ks : K3) : Ent := .code (fun l k => unK l fun a0 l => unK l fun a1 l => nlK l <| k (.mk (.mk a0 a1 U U) Q0 Q0 Q0 Q0 Q0 Q0 Q0))
  (fun c t h n => g0 t fun z1 => tcallK (c kc [z1] h n) fun z2 h n => g1 t fun z3 => v_call (c ks [z2, z3] h n) fun z4 h n => w2 t z2 fun t => rT t h n) (fun t h n => g2 t fun a0 => .rv a0 h n)
/-- The registers of the range. -/
noncomputable def aT (y zb : K4) (zo : Nat) (it : K4) : S := .mk (.mk (.oth (.yl y)) (.ptr zb zo) (.ptr it 0) U) Q0 Q0 Q0 Q0 Q0 Q0 Q0
/-- What has been gathered. -/
def Lsa (it : K4) (h : Heap) (n : K4) (ss : List Itm) (L : V) : Prop :=
  (ss = [] ∧ L = .nil .sl) ∨ (ss ≠ [] ∧ ∃ q prev, L = .sl q 0 ss.length ss.length false 2 ∧ hget q h = some (.c (.l (flatI ss)) false prev) ∧ it.toN < q.toN ∧ q.toN < n.toN ∧ ∀ r, prev = some r → it.toN < r.toN ∧ r ≠ q)
theorem Lsa.mono {it n n' : K4} {h h' : Heap} {ss : List Itm} {L : V} (l : Lsa it h n ss L) (hn : n.toN ≤ n'.toN) (hh : ∀ p, it.toN < p.toN → p.toN < n.toN → hget p h' = hget p h) : Lsa it h' n' ss L := by
  rcases l with l | ⟨h0, q, prev, h1, h2, h3, h4, h5⟩
  · exact .inl l
  · exact .inr ⟨h0, q, prev, h1, by rw [hh q h3 h4]; exact h2, h3, by omega, h5⟩
theorem flatI_app (A C : List Itm) : flatI (A ++ C) = flatI A ++ flatI C := by simp [flatI]
theorem app2_step {it n n' p : K4} {h : Heap} {ss : List Itm} {i : Itm} {L : V} (hn : ∀ k : K4 → R, n.nx k = k n') (hn' : n'.toN = n.toN + 1) (hit : it.toN < n.toN) (hp : hget p h = some (.c (.l [.int .u32 i.t, .str i.m i.c]) false none)) (hl : Lsa it h n ss L) (hss : ss.length ≤ 1000000000) :
    ∃ q k h', (∀ κ, v_app 2 24 L (.sl p 0 1 1 true 2) h n κ = κ (.sl q 0 k k false 2) h' n') ∧ (∀ r, r.toN ≤ it.toN → hget r h' = hget r h) ∧ Lsa it h' n' (ss ++ [i]) (.sl q 0 k k false 2) := by
  rcases hl with ⟨h0, hL⟩ | ⟨h0, q, prev, hL, hq', hq0, hqn, hpr⟩
  · subst h0 hL
    refine ⟨n, 1, _, fun κ => app2_nil_at hn hp, fun r hr => ?_, .inr ⟨by simp, n, none, rfl, ?_, hit, by omega, fun r hr => by cases hr⟩⟩
    · rw [hget_hputS_ne _ _ (ne_of_lt (by omega : r.toN < n.toN)).symm]
    · rw [hget_hputS_same]; rfl
  · subst hL
    refine ⟨n, ss.length + 1, _, fun κ => app2_sl_at hn hp hq' (flatI_len ss) hss, fun r hr => ?_, .inr ⟨by simp, n, some q, by simp, ?_, hit, by omega, fun r hr => ?_⟩⟩
    · rw [hget_hputS_ne _ _ (ne_of_lt (by omega : r.toN < n.toN)).symm, hget_hputS_ne _ _ (ne_of_lt (by omega : r.toN < q.toN)).symm]
      cases hprev : prev with
      | none => rfl
      | some r' => exact hget_hputS_ne _ _ (ne_of_lt (by have := (hpr r' hprev).1; omega : r.toN < r'.toN)).symm
    · rw [hget_hputS_same, flatI_app]; rfl
    · cases hr
      exact ⟨hq0, ne_of_lt hqn⟩
theorem hgetR_at {p : K4} {h : Heap} {κ : OOb → R} : hgetR p h κ = κ (hget p h) := hgetR_eq _ _ _
section
variable {hb h : Heap} {n pm y bx it zb : K4} {zo clk : Nat} {es : List (V × V)} {bs : List Nat} {T : FC} {fA : FuncId} {its : List Nat} {mm : Nat}
theorem mkR_step {L : V} {ss : List Itm} {seen : List Nat} {e : V × V} {b i : Nat} (hA : tabG (fnKey fA) T = some (.ap fA its rdA2)) (hit : hget it h = some (.it pm clk (b :: seen) clk)) (hm : hget pm h = some (.m es bs clk)) (hy : hget y h = some (.lp fA bx)) (hbx : hget bx h = some (.c (.l [L]) false none))
    (he : es[i]? = some e) (hb : bs[i]? = some b) (hnd : bs.Nodup) (hS : Shaped e) (hpb : pm.toN < bx.toN) (hby : bx.toN < y.toN) (hyi : y.toN < it.toN) (hin : it.toN < n.toN) (hl : Lsa it h n ss L) (hss : ss.length ≤ 1000000000) (hN : n.toN + 4 ≤ 65535) :
    ∃ h' L' n', mkR (call2 T (mm + 1)) (.ptr it 0) (aT y zb zo it) h n = nR (aT y zb zo it) h' n' ∧ n'.toN = n.toN + 4 ∧ (∀ p, p.toN ≤ it.toN → p ≠ bx → hget p h' = hget p h) ∧ hget bx h' = some (.c (.l [L']) false none) ∧ Lsa it h' n' (ss ++ [itmE es e]) L' := by
  obtain ⟨n1, hn1, hx1⟩ := K4.nx_u n (by omega)
  obtain ⟨n2, hn2, hx2⟩ := K4.nx_u n1 (by omega)
  obtain ⟨n3, hn3, hx3⟩ := K4.nx_u n2 (by omega)
  obtain ⟨n4, hn4, hx4⟩ := K4.nx_u n3 (by omega)
  obtain ⟨t, m, c, hc, hk⟩ := hS
  obtain ⟨k, x⟩ := e
  have hk : k = .agg [.int .u32 t, .str m c] := hk
  subst hk
  have hfirst : ∀ j, j < i → bs[j]? ≠ some b := fun j hj e => by
    obtain ⟨l1, e1⟩ := List.getElem?_eq_some_iff.1 e
    obtain ⟨l2, e2⟩ := List.getElem?_eq_some_iff.1 hb
    exact List.pairwise_iff_getElem.1 hnd j i l1 l2 hj (e1.trans e2.symm)
  have ent : ∀ κ : KV, entK' (.ptr it 0) h n κ = κ (.tup [.agg [.int .u32 t, .str m c], x]) h n := fun κ => by
    show itR it h (.fail "entry") _ = _
    rw [itR_at hit]
    show mpR pm h _ = _
    rw [mpR_at hm]
    show br (Nat.beq clk clk) (findB b es bs fun k x => κ (.tup [k, x]) h n) (.fail "an insertion") = _
    rw [Nat.beq_refl, br_true, findB_at he hb hfirst]
  -- the key in a box
  obtain ⟨h1, eh1⟩ : ∃ h1, h1 = hputS n (hputS n h (some (.c (.l [iW 0, .str 0 0]) false none))) (some (.c (.l [.int .u32 t, .str m c]) false none)) := ⟨_, rfl⟩
  have g1 : hget n h1 = some (.c (.l [.int .u32 t, .str m c]) false none) := by rw [eh1, hget_hputS_same]
  have g1' : ∀ p, p ≠ n → hget p h1 = hget p h := fun p hp => by rw [eh1, hget_hputS_ne _ _ hp.symm, hget_hputS_ne _ _ hp.symm]
  -- the record is taken
  obtain ⟨h2, eh2⟩ : ∃ h2, h2 = hputS y h1 none := ⟨_, rfl⟩
  have g2' : ∀ p, p ≠ y → hget p h2 = hget p h1 := fun p hp => by rw [eh2, hget_hputS_ne _ _ hp.symm]
  -- the key in a box of the round's own
  obtain ⟨h3, eh3⟩ : ∃ h3, h3 = hputS n1 (hputS n1 h2 (some (.c (.l [.int .u32 0, .str 0 0]) false none))) (some (.c (.l [.int .u32 t, .str m c]) false none)) := ⟨_, rfl⟩
  have g3 : hget n1 h3 = some (.c (.l [.int .u32 t, .str m c]) false none) := by rw [eh3, hget_hputS_same]
  have g3' : ∀ p, p ≠ n1 → hget p h3 = hget p h2 := fun p hp => by rw [eh3, hget_hputS_ne _ _ hp.symm, hget_hputS_ne _ _ hp.symm]
  obtain ⟨h4, eh4⟩ : ∃ h4, h4 = hputS n2 h3 (some (.c (.l [.int .u32 t, .str m c]) false none)) := ⟨_, rfl⟩
  have g4 : hget n2 h4 = some (.c (.l [.int .u32 t, .str m c]) false none) := by rw [eh4, hget_hputS_same]
  have g4' : ∀ p, p ≠ n2 → hget p h4 = hget p h3 := fun p hp => by rw [eh4, hget_hputS_ne _ _ hp.symm]
  have old : ∀ p, p.toN < n.toN → p ≠ y → hget p h4 = hget p h := fun p hp hpy => by
    rw [g4' p (ne_of_lt (by omega)), g3' p (ne_of_lt (by omega)), g2' p hpy, g1' p (ne_of_lt hp)]
  have hbx4 : hget bx h4 = some (.c (.l [L]) false none) := by rw [old bx (by omega) (ne_of_lt hby)]; exact hbx
  have hl4 : Lsa it h4 n3 ss L := hl.mono (by omega) fun p hp1 hp2 => old p hp2 (ne_of_lt (by omega : y.toN < p.toN)).symm
  obtain ⟨q, k, h5, happ, hfr, hl5⟩ := app2_step (i := ⟨uOf es t m c, t, m, c⟩) hx4 hn4 (by omega) g4 hl4 hss
  obtain ⟨h6, eh6⟩ : ∃ h6, h6 = hputS bx h5 (some (.c (.l [.sl q 0 k k false 2]) false none)) := ⟨_, rfl⟩
  obtain ⟨h7, eh7⟩ : ∃ h7, h7 = hputS y h6 (some (.lp fA bx)) := ⟨_, rfl⟩
  have hbx5 : hget bx h5 = some (.c (.l [L]) false none) := by rw [hfr bx (by omega)]; exact hbx4
  have round : call2 T (mm + 1) (fnKey fA) [.oth .no, .ptr bx 0, .agg [.int .u32 t, .str m c]] h2 n1 = .rv (.bool true) h6 n4 := by
    rw [call2_at, hA]
    show rdA2 (call2 T mm) (.ptr bx 0) (.agg [.int .u32 t, .str m c]) h2 n1 = _
    unfold rdA2
    rw [v_alc_at hx2]
    show v_st 2 (.ptr n1 0) (.agg [.int .u32 t, .str m c]) _ _ = _
    rw [v_st2_at (x := .int .u32 0) (y := .str 0 0) (hget_hputS_same _ _ _), ← eh3]
    show v_ld (.ptr bx 0) h3 _ = _
    rw [ld_at (v := L) (by rw [← g4' bx (ne_of_lt (by omega))]; exact hbx4) rfl, v_ldn2_at g3, part2_at, v_bsl_at hx3, ← eh4, happ, v_st1_sl hbx5, ← eh6]
  refine ⟨h7, .sl q 0 k k false 2, n4, ?_, by omega, fun p hp hpb' => ?_, ?_, ?_⟩
  · unfold mkR
    rw [ent, v_ext0, v_alc_at hx1]
    show v_st 2 (.ptr n 0) (.agg [.int .u32 t, .str m c]) _ _ = _
    rw [v_st2_at (x := iW 0) (y := .str 0 0) (hget_hputS_same _ _ _), ← eh1]
    show v_ldn 2 (.ptr n 0) h1 _ = _
    rw [v_ldn2_at g1]
    show hgetR y h1 _ = _
    rw [hgetR_at, g1' y (ne_of_lt (by omega)), hy]
    show hputR y h1 none _ = _
    rw [hputR_at, ← eh2]
    show tcallK (call2 T (mm + 1) (fnKey fA) [.oth .no, .ptr bx 0, .agg [.int .u32 t, .str m c]] h2 n1) _ = _
    rw [round]
    show hputR y h6 (some (.lp fA bx)) _ = _
    rw [hputR_at, ← eh7]
    rfl
  · by_cases hpy : p = y
    · subst hpy; rw [eh7, hget_hputS_same, hy]
    · rw [eh7, hget_hputS_ne _ _ (Ne.symm hpy), eh6, hget_hputS_ne _ _ (Ne.symm hpb'), hfr p hp, old p (by omega) hpy]
  · rw [eh7, hget_hputS_ne _ _ (ne_of_lt hby).symm, eh6, hget_hputS_same]
  · rw [itmE_at]
    refine hl5.mono (Nat.le_refl _) fun p hp1 hp2 => ?_
    rw [eh7, hget_hputS_ne _ _ (ne_of_lt (by omega : y.toN < p.toN)), eh6, hget_hputS_ne _ _ (ne_of_lt (by omega : bx.toN < p.toN))]
end
section
variable {hs0 : Heap} {pm y bx it zb : K4} {zo clk : Nat} {es : List (V × V)} {bs : List Nat} {T : FC} {fA : FuncId} {its : List Nat} {mm : Nat}
/-- THE RANGE. -/
theorem mk_loop (hA : tabG (fnKey fA) T = some (.ap fA its rdA2)) (hm : hget pm hs0 = some (.m es bs clk)) (hy : hget y hs0 = some (.lp fA bx)) (hlen : es.length = bs.length) (hnd : bs.Nodup) (hlt : allLt clk bs = true) (hS : ∀ e ∈ es, Shaped e)
    (hpb : pm.toN < bx.toN) (hby : bx.toN < y.toN) (hyi : y.toN < it.toN) {N : Nat} (hN : N ≤ 65535) {all : List Itm} (hbig : es.length ≤ 1000000) :
    ∀ (j k : Nat) (left : List ((V × V) × Nat)) (L : V) (h : Heap) (n : K4) (seen : List Nat) (ss : List Itm), left.length = j → j < k → (∀ p, p.toN < it.toN → p ≠ bx → hget p h = hget p hs0) → hget bx h = some (.c (.l [L]) false none) → hget it h = some (.it pm clk seen clk) → it.toN < n.toN → Lsa it h n ss L →
      n.toN + 4 * j ≤ N → ss.length + j ≤ es.length → (left.map (·.2)).Nodup → (∀ y ∈ left, memN y.2 seen = false ∧ y.2 ∈ bs) → (∀ (i : Nat) e b, es[i]? = some e → bs[i]? = some b → memN b seen = false → (e, b) ∈ left) → (ss ++ left.map fun y => itmE es y.1).Perm all →
      (itK (mkB (call2 T (mm + 1))) k (aT y zb zo it) h n).sat fun r => ∃ L' h' n' ss', r = .ok (.exit 0) (aT y zb zo it) h' n' ∧ (∀ p, p.toN < it.toN → p ≠ bx → hget p h' = hget p hs0) ∧ hget bx h' = some (.c (.l [L']) false none) ∧ Lsa it h' n' ss' L' ∧ it.toN < n'.toN ∧ n'.toN ≤ N ∧ ss'.Perm all := by
  intro j
  induction j with
  | zero =>
    intro k left L h n seen ss hlj hk hold hbx hit hin hl hnN hsl hI1 hI2 hI3 hI5
    obtain ⟨k, rfl⟩ : ∃ k', k = k' + 1 := ⟨k - 1, by omega⟩
    obtain rfl := List.eq_nil_of_length_eq_zero hlj
    rw [itK_round]
    show R.sat _ (onX (mkB (call2 T (mm + 1)) (aT y zb zo it) h n) (itK (mkB (call2 T (mm + 1))) k))
    apply onX_to
    show R.sat _ (nxtK (.ptr it 0) h n fun z5 h n => v_ext 0 z5 fun z6 => vif z6 (blockX 1 (mkR (call2 T (mm + 1)) (.ptr it 0) (aT y zb zo it) h n) fun t h n => nR t h n) <| .ok (.exit 0) (aT y zb zo it) h n)
    unfold nxtK
    show R.sat _ (itR it h _ _)
    rw [itR_at hit]
    show R.sat _ (mpR pm h _)
    rw [mpR_at (by rw [hold pm (by omega) (ne_of_lt hpb)]; exact hm), hlt, br_true, show Nat.ble clk clk = true from ble_iff.2 (Nat.le_refl _), br_true]
    refine goNone_to hlen (fun _ => ?_) fun i e b he hb hn => by have := hI3 i e b he hb hn; simp at this
    refine ⟨L, h, n, ss, rfl, hold, hbx, hl, hin, by omega, ?_⟩
    simpa using hI5
  | succ j ih =>
    intro k left L h n seen ss hlj hk hold hbx hit hin hl hnN hsl hI1 hI2 hI3 hI5
    obtain ⟨k, rfl⟩ : ∃ k', k = k' + 1 := ⟨k - 1, by omega⟩
    rw [itK_round]
    show R.sat _ (onX (mkB (call2 T (mm + 1)) (aT y zb zo it) h n) (itK (mkB (call2 T (mm + 1))) k))
    apply onX_to
    show R.sat _ (nxtK (.ptr it 0) h n fun z5 h n => v_ext 0 z5 fun z6 => vif z6 (blockX 1 (mkR (call2 T (mm + 1)) (.ptr it 0) (aT y zb zo it) h n) fun t h n => nR t h n) <| .ok (.exit 0) (aT y zb zo it) h n)
    unfold nxtK
    show R.sat _ (itR it h _ _)
    rw [itR_at hit]
    show R.sat _ (mpR pm h _)
    rw [mpR_at (by rw [hold pm (by omega) (ne_of_lt hpb)]; exact hm), hlt, br_true, show Nat.ble clk clk = true from ble_iff.2 (Nat.le_refl _), br_true]
    refine goNone_to hlen (fun hall => ?_) fun i e b he hb hn => ?_
    · exfalso
      cases left with
      | nil => simp at hlj
      | cons z left =>
        obtain ⟨h1, h2⟩ := hI2 z (List.mem_cons_self ..)
        rw [hall _ h2] at h1; cases h1
    · have hmem := hI3 i e b he hb hn
      obtain ⟨l1, l2, rfl⟩ := List.append_of_mem hmem
      have hee : e ∈ es := List.mem_of_getElem? he
      unfold leafK
      rw [hputR_at]
      obtain ⟨h1, eh1⟩ : ∃ h1, h1 = hputS it h (some (.it pm clk (b :: seen) clk)) := ⟨_, rfl⟩
      rw [← eh1]
      have g1 : hget it h1 = some (.it pm clk (b :: seen) clk) := by rw [eh1, hget_hputS_same]
      have g1' : ∀ p, p ≠ it → hget p h1 = hget p h := fun p hp => by rw [eh1, hget_hputS_ne _ _ hp.symm]
      have hold1 : ∀ p, p.toN < it.toN → p ≠ bx → hget p h1 = hget p hs0 := fun p hp hpb' => by rw [g1' p (ne_of_lt hp), hold p hp hpb']
      have hbx1 : hget bx h1 = some (.c (.l [L]) false none) := by rw [g1' bx (ne_of_lt (by omega))]; exact hbx
      have hl1 : Lsa it h1 n ss L := hl.mono (Nat.le_refl _) fun p hp1 hp2 => g1' p (ne_of_lt hp1).symm
      obtain ⟨h', L', n', hR, hn1, hfr, hbx', hl'⟩ := mkR_step (zb := zb) (zo := zo) (mm := mm) (n := n) (L := L) (ss := ss) (e := e) hA g1 (by rw [hold1 pm (by omega) (ne_of_lt hpb)]; exact hm) (by rw [hold1 y hyi (ne_of_lt hby).symm]; exact hy) hbx1 he hb hnd (hS e hee) hpb hby hyi hin hl1 (by omega) (by omega)
      obtain ⟨ek, ex⟩ := e
      show R.sat _ (blockX 1 (mkR (call2 T (mm + 1)) (.ptr it 0) (aT y zb zo it) h1 n) fun t h n => nR t h n)
      rw [hR]
      show R.sat _ (itK (mkB (call2 T (mm + 1))) k (aT y zb zo it) h' n')
      have hI1' : (l1.map (·.2) ++ b :: l2.map (·.2)).Nodup := by simpa using hI1
      have hI1'' : b ∉ l1.map (·.2) ∧ b ∉ l2.map (·.2) ∧ (l1.map (·.2) ++ l2.map (·.2)).Nodup := by
        have hp : (b :: (l1.map (·.2) ++ l2.map (·.2))).Nodup := (List.perm_middle.nodup_iff).1 hI1'
        obtain ⟨q1, q2⟩ := List.nodup_cons.1 hp
        exact ⟨fun h => q1 (List.mem_append_left _ h), fun h => q1 (List.mem_append_right _ h), q2⟩
      refine ih k (l1 ++ l2) L' h' n' (b :: seen) (ss ++ [itmE es (ek, ex)]) (by simp at hlj ⊢; omega) (by omega) (fun p hp hpb' => by rw [hfr p (by omega) hpb', hold1 p hp hpb']) hbx' (by rw [hfr it (Nat.le_refl _) (ne_of_lt (by omega)).symm]; exact g1) (by omega) hl' (by omega) (by rw [List.length_append]; simp; omega) (by simpa using hI1''.2.2)
        (fun z hz => ?_) (fun i' e' b' he' hb' hn' => ?_) ?_
      · have hz' : z ∈ l1 ++ ((ek, ex), b) :: l2 := by
          rcases List.mem_append.1 hz with h | h
          · exact List.mem_append_left _ h
          · exact List.mem_append_right _ (List.mem_cons_of_mem _ h)
        obtain ⟨y1, y2⟩ := hI2 z hz'
        refine ⟨?_, y2⟩
        show br (Nat.beq b z.2) true (memN z.2 seen) = false
        have hne : b ≠ z.2 := fun e => by
          rcases List.mem_append.1 hz with h | h
          · exact hI1''.1 (List.mem_map.2 ⟨z, h, e.symm⟩)
          · exact hI1''.2.1 (List.mem_map.2 ⟨z, h, e.symm⟩)
        have : Nat.beq b z.2 = false := by
          cases hx : Nat.beq b z.2 with
          | false => rfl
          | true => exact absurd (Nat.eq_of_beq_eq_true hx) hne
        rw [this]; exact y1
      · have hn' : br (Nat.beq b b') true (memN b' seen) = false := hn'
        cases hx : Nat.beq b b' with
        | true => rw [hx] at hn'; cases hn'
        | false =>
          rw [hx] at hn'
          have := hI3 i' e' b' he' hb' hn'
          rcases List.mem_append.1 this with h | h
          · exact List.mem_append_left _ h
          · rcases List.mem_cons.1 h with h | h
            · cases h; rw [Nat.beq_refl] at hx; cases hx
            · exact List.mem_append_right _ h
      · refine List.Perm.trans ?_ hI5
        rw [List.map_append, List.map_append, List.map_cons, List.append_assoc]
        refine List.Perm.append_left _ ?_
        show (itmE es (ek, ex) :: (l1.map (fun y => itmE es y.1) ++ l2.map fun y => itmE es y.1)).Perm (l1.map (fun y => itmE es y.1) ++ itmE es (ek, ex) :: l2.map fun y => itmE es y.1)
        exact List.perm_middle.symm
end
section
variable {hs : Heap} {n0 pm zb : K4} {zo clk : Nat} {es : List (V × V)} {bs : List Nat} {T : FC} {fA : FuncId} {its : List Nat} {mm gk : Nat} {xz : List V} {s0 : Bool} {p0 : Option K4}
/-- slices.AppendSeq of the keys. -/
theorem ap_call (hA : tabG (fnKey fA) T = some (.ap fA its rdA2)) (hK : tabG (fnKey gk) T = some mkeysE) (hits : ∀ κ, memFK gk its κ = κ) (hzb : hget zb hs = some (.c (.l xz) s0 p0)) (hzo : xz[zo]? = some (.map pm)) (hm : hget pm hs = some (.m es bs clk)) (hlen : es.length = bs.length) (hnd : bs.Nodup) (hlt : allLt clk bs = true) (hS : ∀ e ∈ es, Shaped e)
    (hzn : zb.toN < n0.toN) (hpn : pm.toN < n0.toN) {N : Nat} (hN : N ≤ 65535) (hn : n0.toN + 3 + 4 * es.length ≤ N) (hbig : es.length ≤ 1000000) :
    (call2 T (mm + 3) (fnKey fA) [.nil .sl, .fn gk [.ptr zb zo]] hs n0).sat fun r => ∃ L h' n' it ss, r = .rv L h' n' ∧ (∀ p, p.toN < n0.toN → hget p h' = hget p hs) ∧ n0.toN < it.toN ∧ it.toN < n'.toN ∧ Lsa it h' n' ss L ∧ n'.toN ≤ N ∧ ss.Perm (es.map (itmE es)) := by
  obtain ⟨n1, hn1, hx1⟩ := K4.nx_u n0 (by omega)
  obtain ⟨n2, hn2, hx2⟩ := K4.nx_u n1 (by omega)
  obtain ⟨n3, hn3, hx3⟩ := K4.nx_u n2 (by omega)
  rw [call2_at, hA]
  show R.sat _ (memFK gk its (hputR n0 hs (some (.c (.l [.nil .sl]) false none)) fun h => n0.nx fun n1 => hputR n1 h (some (.lp fA n0)) fun h => n1.nx fun n2 =>
      tcallK (call2 T (mm + 2) (fnKey gk) (.oth (.yl n1) :: [.ptr zb zo]) h n2) fun _ h m =>
        hgetR n1 h fun o => lpK o (obR n0 h fun cs _ _ => getC cs 0 fun sv => hputR n0 h none fun h => hputR n1 h none fun h => .rv sv h m)))
  rw [hits, hputR_at, hx1, hputR_at, hx2]
  obtain ⟨h2, eh2⟩ : ∃ h2, h2 = hputS n1 (hputS n0 hs (some (.c (.l [.nil .sl]) false none))) (some (.lp fA n0)) := ⟨_, rfl⟩
  rw [← eh2]
  have n01 : n0 ≠ n1 := ne_of_lt (by omega)
  have gy : hget n1 h2 = some (.lp fA n0) := by rw [eh2, hget_hputS_same]
  have gb : hget n0 h2 = some (.c (.l [.nil .sl]) false none) := by rw [eh2, hget_hputS_ne _ _ n01.symm, hget_hputS_same]
  have g2' : ∀ p, p.toN < n0.toN → hget p h2 = hget p hs := fun p hp => by rw [eh2, hget_hputS_ne _ _ (ne_of_lt (by omega : p.toN < n1.toN)).symm, hget_hputS_ne _ _ (ne_of_lt hp).symm]
  apply tcallK_to
  rw [call2_at, hK]
  apply retX_to
  show R.sat _ (v_ld (.ptr zb zo) h2 _)
  rw [ld_at (by rw [g2' zb hzn]; exact hzb) (v := .map pm) hzo]
  show R.sat _ (mpR pm h2 _)
  rw [mpR_at (by rw [g2' pm hpn]; exact hm)]
  show R.sat _ (newR h2 n2 (.it pm clk [] clk) _)
  rw [newR_at hx3]
  obtain ⟨h3, eh3⟩ : ∃ h3, h3 = hputS n2 h2 (some (.it pm clk [] clk)) := ⟨_, rfl⟩
  rw [← eh3]
  have g3' : ∀ p, p.toN < n2.toN → hget p h3 = hget p h2 := fun p hp => by rw [eh3, hget_hputS_ne _ _ (ne_of_lt hp).symm]
  show R.sat _ (blockX 0 (itK (mkB (call2 T (mm + 1))) 1000000000 (aT n1 zb zo n2) h3 n3) _)
  apply blockX_to
  have key := mk_loop (hs0 := h3) (zb := zb) (zo := zo) (mm := mm) (it := n2) (y := n1) (bx := n0) (N := N) (all := es.map (itmE es)) hA (by rw [g3' pm (by omega), g2' pm hpn]; exact hm) (by rw [g3' n1 (by omega)]; exact gy) hlen hnd hlt hS hpn (by omega) (by omega) hN hbig es.length 1000000000 (es.zip bs) (.nil .sl) h3 n3 [] [] (by rw [List.length_zip]; omega) (by omega) (fun p _ _ => rfl) (by rw [g3' n0 (by omega)]; exact gb) (by rw [eh3, hget_hputS_same]) (by omega) (.inl ⟨rfl, rfl⟩) (by omega) (by simp)
    (by rw [List.map_snd_zip (by omega)]; exact hnd) (fun y hy => ⟨rfl, (List.of_mem_zip hy).2⟩) (fun i e b he hb _ => List.mem_of_getElem? (List.getElem?_zip_eq_some.2 ⟨he, hb⟩)) (by
      have e1 : (es.zip bs).map (fun y => itmE es y.1) = es.map (itmE es) := by
        rw [show (fun y : (V × V) × Nat => itmE es y.1) = itmE es ∘ Prod.fst from rfl, ← List.map_map, List.map_fst_zip (by omega)]
      rw [List.nil_append, e1])
  refine R.sat_mono ?_ key
  rintro r ⟨L', h', n', ss', rfl, hold, hbx, hl, hin, hn', hperm⟩
  refine ⟨.tup [], h', n', rfl, ?_⟩
  show R.sat _ (hgetR n1 h' _)
  rw [hgetR_at, hold n1 (by omega) n01.symm, g3' n1 (by omega), gy]
  show R.sat _ (obR n0 h' _)
  rw [obR_at hbx]
  show R.sat _ (hputR n0 h' none _)
  rw [hputR_at]
  show R.sat _ (hputR n1 _ none _)
  rw [hputR_at]
  refine ⟨L', _, n', n2, ss', rfl, fun p hp => ?_, by omega, hin, hl.mono (Nat.le_refl _) fun p hp1 hp2 => ?_, hn', hperm⟩
  · rw [hget_hputS_ne _ _ (ne_of_lt (by omega : p.toN < n1.toN)).symm, hget_hputS_ne _ _ (ne_of_lt hp).symm, hold p (by omega) (ne_of_lt hp), g3' p (by omega), g2' p hp]
  · rw [hget_hputS_ne _ _ (ne_of_lt (by omega : n1.toN < p.toN)), hget_hputS_ne _ _ (ne_of_lt (by omega : n0.toN < p.toN))]
end
section
variable {hs : Heap} {n0 pm zb cz lp : K4} {zo co lo clk : Nat} {es : List (V × V)} {bs : List Nat} {T : FC} {fA : FuncId} {its : List Nat} {mm gk g : Nat} {xz cx lx : List V} {s0 s1 s2 : Bool} {p0 : Option K4} {f : FuncId} {kc ks : K3}
/-- slices.SortedFunc of the keys. -/
theorem sorted_call (hf : tabG (fnKey f) T = some (sortedE kc ks)) (hc : tabG kc T = some (collE (fnKey fA))) (hks : tabG ks T = some (.prim (pSortKN g))) (hA : tabG (fnKey fA) T = some (.ap fA its rdA2)) (hK : tabG (fnKey gk) T = some mkeysE) (hits : ∀ κ, memFK gk its κ = κ)
    (hzb : hget zb hs = some (.c (.l xz) s0 p0)) (hzo : xz[zo]? = some (.map pm)) (hm : hget pm hs = some (.m es bs clk)) (hcz : hget cz hs = some (.c (.l cx) s1 none)) (hco : cx[co]? = some (.ptr lp lo)) (hlp : hget lp hs = some (.c (.l lx) s2 none)) (hlo : lx[lo]? = some (.map pm))
    (hlen : es.length = bs.length) (hnd : bs.Nodup) (hlt : allLt clk bs = true) (hS : ∀ e ∈ es, Shaped e) (hok : ∀ x ∈ es.map (itmE es), ItmOK es x) (hst : (sortUL (es.map (itmE es))).Pairwise fun a b => a.u < b.u)
    (hzn : zb.toN < n0.toN) (hpn : pm.toN < n0.toN) (hcn : cz.toN < n0.toN) (hln : lp.toN < n0.toN) {N : Nat} (hN : N ≤ 65535) (hn : n0.toN + 3 + 4 * es.length ≤ N) (hbig : es.length ≤ 1000000) :
    (call2 T (mm + 5) (fnKey f) [.fn gk [.ptr zb zo], .fn g [.ptr cz co]] hs n0).sat fun r => ∃ v h' n', r = .rv v h' n' ∧ (∀ p, p.toN < n0.toN → hget p h' = hget p hs) ∧ n'.toN ≤ N ∧
      ((es = [] ∧ v = .nil .sl) ∨ (es ≠ [] ∧ ∃ q, v = .sl q 0 es.length es.length false 2 ∧ hget q h' = some (.c (.l (flatI (sortUL (es.map (itmE es))))) false none) ∧ n0.toN ≤ q.toN)) := by
  rw [call2_at, hf]
  apply retX_to
  show R.sat _ (tcallK (call2 T (mm + 4) kc [.fn gk [.ptr zb zo]] hs n0) _)
  apply tcallK_to
  rw [call2_at, hc]
  apply retX_to
  show R.sat _ (tcallK (call2 T (mm + 3) (fnKey fA) [.nil .sl, .fn gk [.ptr zb zo]] hs n0) _)
  apply tcallK_to
  refine R.sat_mono ?_ (ap_call (mm := mm) hA hK hits hzb hzo hm hlen hnd hlt hS hzn hpn hN hn hbig)
  rintro r ⟨L, h', n', it, ss, rfl, hold, hit, hin, hl, hn', hperm⟩
  refine ⟨L, h', n', rfl, L, h', n', rfl, ?_⟩
  show R.sat _ (v_call (call2 T (mm + 4) ks [L, .fn g [.ptr cz co]] h' n') _)
  rw [call2_at, hks]
  have hlen' : ss.length = es.length := by rw [hperm.length_eq, List.length_map]
  rcases hl with ⟨h0, hL⟩ | ⟨h0, q, prev, hL, hq, hq0, hqn, hpr⟩
  · subst h0 hL
    have he : es = [] := by
      cases es with
      | nil => rfl
      | cons => simp at hlen'
    exact ⟨.nil .sl, h', n', rfl, hold, hn', .inl ⟨he, rfl⟩⟩
  · subst hL
    have he : es ≠ [] := fun e => by
      subst e
      exact h0 (List.eq_nil_of_length_eq_zero hlen')
    have hone : sortUL ss = sortUL (es.map (itmE es)) := sorted_one hst (sortUL_perm _) ((sortUL_perm ss).trans hperm) (sortUL_sorted ss)
    have hnp : ∀ p : K4, p.toN < n0.toN → notP prev p = true := fun p hp => by
      cases hprev : prev with
      | none => rfl
      | some r =>
        have hb : K4.beq r p = false := by
          cases hb : K4.beq r p with
          | false => rfl
          | true => have := K4.beq_iff.1 hb; have := (hpr r hprev).1; subst r; omega
        show br (K4.beq r p) false true = true
        rw [hb]; rfl
    show R.sat _ (v_call (primX (pSortK g [.sl q 0 ss.length ss.length false 2, .fn g [.ptr cz co]] h' n')) _)
    rw [pSortK_at (by rw [hold cz hcn]; exact hcz) hco (by rw [hold lp hln]; exact hlp) hlo (by rw [hold pm hpn]; exact hm) hq h0 (by omega) (hnp cz hcn) (hnp lp hln) (fun e => by subst e; omega) (fun e => by subst e; omega) hS (fun x hx => hok x (hperm.mem_iff.1 hx)) (by rw [hone]; exact hst)]
    refine ⟨.sl q 0 ss.length ss.length false 2, _, n', rfl, fun p hp => ?_, hn', .inr ⟨he, q, by rw [hlen'], by rw [hget_hputS_same, hone], by omega⟩⟩
    rw [hget_hputS_ne _ _ (ne_of_lt (by omega : p.toN < q.toN)).symm]
    cases hprev : prev with
    | none => exact hold p hp
    | some r =>
      have := (hpr r hprev).1
      show hget p (hputS r h' none) = _
      rw [hget_hputS_ne _ _ (ne_of_lt (by omega : p.toN < r.toN)).symm]
      exact hold p hp
end
def Itm.ent (x : Itm) : V × V := (.agg [.int .u32 x.t, .str x.m x.c], .int .i64 x.u)
noncomputable def itmsK (es : List (V × V)) : (List Itm → R) → R :=
  @List.rec (V × V) (fun _ => (List Itm → R) → R) (fun κ => κ []) (fun e _ ih κ => @Prod.rec V V (fun _ => R) (fun k x => asAgg k fun l => unK l fun a l => unK l fun b l => nlK l (asI a fun kd t => br (kbeq kd .u32) (br (Nat.ble (Nat.succ t) 4294967296) (asStr b fun m c => br (Nat.ble (Nat.succ c) (Nat.pow 256 m))
    (asI x fun ku u => br (kbeq ku .i64) (br (Nat.ble (Nat.succ u) 4611686018427387904) (ih fun zs => κ (⟨u, t, m, c⟩ :: zs)) (.fail "a great number")) (.fail "kinds")) (.fail "a text")) (.fail "a number")) (.fail "kinds"))) e) es
def ItmB (x : Itm) : Prop := x.t < 4294967296 ∧ x.c < 256 ^ x.m ∧ x.u < 4611686018427387904
theorem itmsK_good : ∀ {es : List (V × V)} {κ : List Itm → R}, (itmsK es κ).good → ∃ its, es = its.map Itm.ent ∧ (∀ x ∈ its, ItmB x) ∧ itmsK es κ = κ its
  | [], κ, _ => ⟨[], rfl, fun x hx => by simp at hx, rfl⟩
  | (k, x) :: es, κ, h => by
    have e0 : itmsK ((k, x) :: es) κ = asAgg k fun l => unK l fun a l => unK l fun b l => nlK l (asI a fun kd t => br (kbeq kd .u32) (br (Nat.ble (Nat.succ t) 4294967296) (asStr b fun m c => br (Nat.ble (Nat.succ c) (Nat.pow 256 m))
      (asI x fun ku u => br (kbeq ku .i64) (br (Nat.ble (Nat.succ u) 4611686018427387904) (itmsK es fun zs => κ (⟨u, t, m, c⟩ :: zs)) (.fail "a great number")) (.fail "kinds")) (.fail "a text")) (.fail "a number")) (.fail "kinds")) := rfl
    rw [e0] at h ⊢
    obtain ⟨l, rfl, e1⟩ := asAgg_good' h
    rw [e1] at h ⊢
    obtain ⟨a, l, rfl, e2⟩ := unK_good h
    rw [e2] at h ⊢
    obtain ⟨b, l, rfl, e3⟩ := unK_good h
    rw [e3] at h ⊢
    obtain ⟨rfl, e4⟩ := nlK_good h
    rw [e4] at h ⊢
    obtain ⟨kd, t, rfl, e5⟩ := asI_good' h
    rw [e5] at h ⊢
    obtain ⟨hk, e6⟩ := br_good h
    rw [e6] at h ⊢
    have := kbeq_iff.1 hk
    subst this
    obtain ⟨ht, e7⟩ := br_good h
    rw [e7] at h ⊢
    obtain ⟨m, c, rfl, e8⟩ := asStr_good h
    rw [e8] at h ⊢
    obtain ⟨hc, e9⟩ := br_good h
    rw [e9] at h ⊢
    obtain ⟨ku, u, rfl, e10⟩ := asI_good' h
    rw [e10] at h ⊢
    obtain ⟨hk2, e11⟩ := br_good h
    rw [e11] at h ⊢
    have := kbeq_iff.1 hk2
    subst this
    obtain ⟨hu, e12⟩ := br_good h
    rw [e12] at h ⊢
    obtain ⟨its, rfl, hok, e13⟩ := itmsK_good h
    refine ⟨⟨u, t, m, c⟩ :: its, rfl, fun x hx => ?_, e13⟩
    rcases List.mem_cons.1 hx with rfl | hx
    · exact ⟨ble_iff.1 ht, ble_iff.1 hc, ble_iff.1 hu⟩
    · exact hok x hx
noncomputable def noneC (t m c : Nat) (tl : List Itm) (κ : R) : R :=
  @List.rec Itm (fun _ => R) κ (fun y _ ih => @Itm.rec (fun _ => R) (fun _ t' m' c' => br (Nat.beq c c') (br (Nat.beq m m') (br (Nat.beq t t') (.fail "two keys alike") ih) ih) ih) y) tl
noncomputable def distK (l : List Itm) (κ : R) : R := @List.rec Itm (fun _ => R) κ (fun x tl ih => @Itm.rec (fun _ => R) (fun _ t m c => noneC t m c tl ih) x) l
def Unl (x y : Itm) : Prop := ¬ (x.t = y.t ∧ x.m = y.m ∧ x.c = y.c)
theorem noneC_good {x : Itm} : ∀ {tl : List Itm} {κ : R}, (noneC x.t x.m x.c tl κ).good → (∀ y ∈ tl, Unl x y) ∧ noneC x.t x.m x.c tl κ = κ
  | [], κ, _ => ⟨fun y hy => by simp at hy, rfl⟩
  | ⟨u, t, m, c⟩ :: tl, κ, h => by
    have e0 : noneC x.t x.m x.c (⟨u, t, m, c⟩ :: tl) κ = br (Nat.beq x.c c) (br (Nat.beq x.m m) (br (Nat.beq x.t t) (.fail "two keys alike") (noneC x.t x.m x.c tl κ)) (noneC x.t x.m x.c tl κ)) (noneC x.t x.m x.c tl κ) := rfl
    rw [e0] at h ⊢
    have step : Unl x ⟨u, t, m, c⟩ → (noneC x.t x.m x.c tl κ).good → (∀ y ∈ (⟨u, t, m, c⟩ :: tl : List Itm), Unl x y) ∧ noneC x.t x.m x.c tl κ = κ := fun hu hg => by
      obtain ⟨h1, h2⟩ := noneC_good hg
      refine ⟨fun y hy => ?_, h2⟩
      rcases List.mem_cons.1 hy with rfl | hy
      · exact hu
      · exact h1 y hy
    cases h1 : Nat.beq x.c c with
    | false =>
      rw [h1, br_false] at h
      rw [br_false]
      exact step (fun e => by rw [show x.c = c from e.2.2, Nat.beq_refl] at h1; cases h1) h
    | true =>
      rw [h1, br_true] at h
      rw [br_true]
      cases h2 : Nat.beq x.m m with
      | false =>
        rw [h2, br_false] at h
        rw [br_false]
        exact step (fun e => by rw [show x.m = m from e.2.1, Nat.beq_refl] at h2; cases h2) h
      | true =>
        rw [h2, br_true] at h
        rw [br_true]
        cases h3 : Nat.beq x.t t with
        | true => rw [h3] at h; exact h.elim
        | false =>
          rw [h3, br_false] at h
          rw [br_false]
          exact step (fun e => by rw [show x.t = t from e.1, Nat.beq_refl] at h3; cases h3) h
theorem distK_good : ∀ {l : List Itm} {κ : R}, (distK l κ).good → l.Pairwise Unl ∧ distK l κ = κ
  | [], κ, _ => ⟨List.Pairwise.nil, rfl⟩
  | x :: l, κ, h => by
    have e0 : distK (x :: l) κ = noneC x.t x.m x.c l (distK l κ) := rfl
    rw [e0] at h ⊢
    obtain ⟨h1, e1⟩ := noneC_good h
    rw [e1] at h ⊢
    obtain ⟨h2, e2⟩ := distK_good h
    exact ⟨List.pairwise_cons.2 ⟨h1, h2⟩, e2⟩
theorem lookF_ent : ∀ {its : List Itm}, its.Pairwise Unl → ∀ {x : Itm}, x ∈ its → lookF x.t x.m x.c (its.map Itm.ent) = some (.int .i64 x.u)
  | [], _, x, hx => by simp at hx
  | y :: its, hp, x, hx => by
    obtain ⟨h1, h2⟩ := List.pairwise_cons.1 hp
    have e0 : lookF x.t x.m x.c ((y :: its).map Itm.ent) = if x.t = y.t ∧ x.m = y.m ∧ x.c = y.c then some (.int .i64 y.u) else lookF x.t x.m x.c (its.map Itm.ent) := rfl
    rw [e0]
    rcases List.mem_cons.1 hx with rfl | hx
    · rw [if_pos ⟨rfl, rfl, rfl⟩]
    · rw [if_neg fun e => h1 x hx ⟨e.1.symm, e.2.1.symm, e.2.2.symm⟩]
      exact lookF_ent h2 hx
theorem ent_shaped {its : List Itm} (h : ∀ x ∈ its, ItmB x) : ∀ e ∈ its.map Itm.ent, Shaped e := fun e he => by
  obtain ⟨x, hx, rfl⟩ := List.mem_map.1 he
  exact ⟨x.t, x.m, x.c, (h x hx).2.1, rfl⟩
theorem ent_itm {its : List Itm} (hp : its.Pairwise Unl) : (its.map Itm.ent).map (itmE (its.map Itm.ent)) = its := by
  rw [List.map_map]
  have : ∀ x ∈ its, (itmE (its.map Itm.ent) ∘ Itm.ent) x = x := fun x hx => by
    show (⟨uOf (its.map Itm.ent) x.t x.m x.c, x.t, x.m, x.c⟩ : Itm) = x
    unfold uOf
    rw [lookF_ent hp hx]
  rw [List.map_congr_left this, List.map_id']
/-- Stamps that rise. -/
noncomputable def incN (bs : List Nat) : Bool := @List.rec Nat (fun _ => Bool) true (fun b tl ih => @List.rec Nat (fun _ => Bool) ih (fun b2 _ _ => br (Nat.ble (Nat.succ b) b2) ih false) tl) bs
theorem incN_pw : ∀ {bs : List Nat}, incN bs = true → bs.Pairwise (· < ·)
  | [], _ => List.Pairwise.nil
  | [b], _ => by simp
  | b :: b2 :: bs, h => by
    have h : br (Nat.ble (Nat.succ b) b2) (incN (b2 :: bs)) false = true := h
    cases h1 : Nat.ble (Nat.succ b) b2 with
    | false => rw [h1] at h; cases h
    | true =>
      rw [h1, br_true] at h
      have hp := incN_pw h
      have h1 : b < b2 := ble_iff.1 h1
      refine List.pairwise_cons.2 ⟨fun z hz => ?_, hp⟩
      rcases List.mem_cons.1 hz with rfl | hz
      · exact h1
      · exact Nat.lt_trans h1 ((List.pairwise_cons.1 hp).1 z hz)
theorem incN_iff {bs : List Nat} (h : incN bs = true) : bs.Nodup := (incN_pw h).imp fun h => Nat.ne_of_lt h
noncomputable def noK (o : Option K4) (κ : R) : R := @Option.rec K4 (fun _ => R) κ (fun _ => .fail "tied") o
theorem noK_rv {o : Option K4} {κ : R} {v : V} {h : Heap} {n : K4} (hx : noK o κ = .rv v h n) : o = none ∧ κ = .rv v h n := by
  cases o with
  | none => exact ⟨rfl, hx⟩
  | some r => cases hx
noncomputable def newL2 (hs : Heap) (n M : K4) (j : Nat) (ys : List V) : R :=
  @List.rec V (fun _ => R) (.rv (.nil .sl) hs M) (fun _ _ _ => hputR n hs (some (.c (.l ys) false none)) fun hf => .rv (.sl n 0 j j false 2) hf M) ys
noncomputable def sortedC (gk g : Nat) (n : K4) (args : List V) (hs : Heap) (acc : List K4) : R :=
  unK args fun x l => unK l fun y l => nlK l (asFn x fun gk' ck => br (Nat.beq gk' gk) (unK ck fun zk l => nlK l (asP zk fun zb zo => asFn y fun g' cc => br (Nat.beq g' g) (unK cc fun cb l => nlK l (asP cb fun cz co => allLtK n acc (
    obR zb hs fun cs _ _ => csL cs fun xz => nthK zo xz fun u => asMap u (.fail "no map") fun pm => mpR pm hs fun es bs clk =>
    obR cz hs fun cs _ pv => noK pv (csL cs fun cx => nthK co cx fun u => asP u fun lp lo => obR lp hs fun cs _ pv2 => noK pv2 (csL cs fun lx => nthK lo lx fun u => asMap u (.fail "no map") fun pm2 => br (K4.beq pm2 pm)
      (br (ltK zb n) (br (ltK pm n) (br (ltK cz n) (br (ltK lp n) (br (allLt clk bs) (br (sameLn es bs) (br (incN bs) (lenM es fun j => br (Nat.ble j 1000000) (itmsK es fun its => distK its (sortU its fun ys => strictU ys (flatK' ys fun zs =>
        forceN (Nat.add 3 (Nat.mul 4 j)) fun d => nxs d n fun M => newL2 hs n M j zs))) (.fail "a great map")) (.fail "stamps")) (.fail "stamps")) (.fail "stamps")) (.fail "places")) (.fail "places")) (.fail "places")) (.fail "places")) (.fail "another map")))))) (.fail "another closure"))) (.fail "another range"))
noncomputable def pSorted (gk g : Nat) : Prim := fun args h n => ordK 400 (sortedC gk g n args) args h n
section
variable {P : Program} {ρ : Env} {B : Nat}
theorem asFn_rv {x : V} {κ : Nat → List V → R} {v : V} {h : Heap} {n : K4} (hx : asFn x κ = .rv v h n) : ∃ f l, x = .fn f l ∧ κ f l = .rv v h n := by
  obtain ⟨f, l, rfl, e⟩ := asFn_good (good_of hx)
  exact ⟨f, l, rfl, by rw [← e]; exact hx⟩
theorem unK_rv {l : List V} {κ : V → List V → R} {v : V} {h : Heap} {n : K4} (hx : unK l κ = .rv v h n) : ∃ a l', l = a :: l' ∧ κ a l' = .rv v h n := by
  obtain ⟨a, l', rfl, e⟩ := unK_good (good_of hx)
  exact ⟨a, l', rfl, by rw [← e]; exact hx⟩
theorem nlK_rv {l : List V} {κ : R} {v : V} {h : Heap} {n : K4} (hx : nlK l κ = .rv v h n) : l = [] ∧ κ = .rv v h n := by
  obtain ⟨rfl, e⟩ := nlK_good (good_of hx)
  exact ⟨rfl, by rw [← e]; exact hx⟩
theorem csL_rv {cs : Cs} {κ : List V → R} {v : V} {h : Heap} {n : K4} (hx : csL cs κ = .rv v h n) : ∃ xs, cs = .l xs ∧ κ xs = .rv v h n := by
  obtain ⟨xs, rfl, e⟩ := csL_good (good_of hx)
  exact ⟨xs, rfl, by rw [← e]; exact hx⟩
/-- slices.SortedFunc OF A MAP's KEYS IS SO. -/
theorem sorted_ok (hρ : OneSym ρ) (hmix : P.follows .mixedOrders = true) {T : FC} (hT : TabOK P ρ B T) {f fA : FuncId} {kc ks : K3} {gk g : Nat} {its : List Nat} (hf : tabG (fnKey f) T = some (sortedE kc ks)) (hc : tabG kc T = some (collE (fnKey fA))) (hks : tabG ks T = some (.prim (pSortKN g))) (hA : tabG (fnKey fA) T = some (.ap fA its rdA2))
    (hK : tabG (fnKey gk) T = some mkeysE) (hits : ∀ κ, memFK gk its κ = κ) : PrimOK P ρ B f (pSorted gk g) := by
  intro args h n v h1 n1 hx φ w xs gm hr
  refine ordK_ok (hr := hx) gm ?_
  intro hs acc v1 hh1 m1 m sub hcan res hOld hm1 gs
  unfold sortedC at hcan
  obtain ⟨x, l, rfl, c1⟩ := unK_rv hcan
  obtain ⟨y, l, rfl, c2⟩ := unK_rv c1
  obtain ⟨rfl, c3⟩ := nlK_rv c2
  obtain ⟨gk', ck, rfl, c4⟩ := asFn_rv c3
  obtain ⟨e1, c5⟩ := br_rv c4
  obtain rfl := Nat.eq_of_beq_eq_true e1
  obtain ⟨zk, l, rfl, c6⟩ := unK_rv c5
  obtain ⟨rfl, c7⟩ := nlK_rv c6
  obtain ⟨zb, zo, rfl, c8⟩ := asP_rv c7
  obtain ⟨g', cc, rfl, c9⟩ := asFn_rv c8
  obtain ⟨e2, c10⟩ := br_rv c9
  obtain rfl := Nat.eq_of_beq_eq_true e2
  obtain ⟨cb, l, rfl, c11⟩ := unK_rv c10
  obtain ⟨rfl, c12⟩ := nlK_rv c11
  obtain ⟨cz, co, rfl, c13⟩ := asP_rv c12
  obtain ⟨hacc, q7⟩ := allLtK_good (good_of c13)
  rw [q7] at c13
  clear q7
  obtain ⟨cs, s0, p0, hzb, c14⟩ := obR_rv c13
  obtain ⟨xz, rfl, c15⟩ := csL_rv c14
  obtain ⟨u, hzo, c16⟩ := nthK_rv c15
  obtain ⟨pm, rfl, c17⟩ := asMap_rv c16
  obtain ⟨es, bs, clk, hpm, c18⟩ := mpR_rv c17
  obtain ⟨cs, s1, p1, hcz, c19⟩ := obR_rv c18
  obtain ⟨rfl, c20⟩ := noK_rv c19
  obtain ⟨cx, rfl, c21⟩ := csL_rv c20
  obtain ⟨u, hco, c22⟩ := nthK_rv c21
  obtain ⟨lp, lo, rfl, c23⟩ := asP_rv c22
  obtain ⟨cs, s2, p2, hlp, c24⟩ := obR_rv c23
  obtain ⟨rfl, c25⟩ := noK_rv c24
  obtain ⟨lx, rfl, c26⟩ := csL_rv c25
  obtain ⟨u, hlo, c27⟩ := nthK_rv c26
  obtain ⟨pm2, rfl, c28⟩ := asMap_rv c27
  obtain ⟨e3, c29⟩ := br_rv c28
  obtain rfl := K4.beq_iff.1 e3
  obtain ⟨l1, c30⟩ := br_rv c29
  obtain ⟨l2, c31⟩ := br_rv c30
  obtain ⟨l3, c32⟩ := br_rv c31
  obtain ⟨l4, c33⟩ := br_rv c32
  obtain ⟨l5, c34⟩ := br_rv c33
  obtain ⟨l6, c35⟩ := br_rv c34
  obtain ⟨l7, c36⟩ := br_rv c35
  rw [lenM_eq] at c36
  obtain ⟨l8, c37⟩ := br_rv c36
  have l1 := ltK_iff.1 l1
  have l2 := ltK_iff.1 l2
  have l3 := ltK_iff.1 l3
  have l4 := ltK_iff.1 l4
  have l6 := sameLn_iff l6
  have l7 := incN_iff l7
  have l8 := ble_iff.1 l8
  obtain ⟨its', hes, hB, q⟩ := itmsK_good (good_of c37)
  rw [q] at c37
  clear q
  obtain ⟨hU, q⟩ := distK_good (good_of c37)
  rw [q] at c37
  clear q
  have hS : ∀ e ∈ es, Shaped e := by rw [hes]; exact ent_shaped hB
  have hit : its' = es.map (itmE es) := by rw [hes]; exact (ent_itm hU).symm
  have hok : ∀ x ∈ its', ItmOK es x := fun x hx => ⟨(hB x hx).1, (hB x hx).2.1, (hB x hx).2.2, by rw [hes]; exact lookF_ent hU hx⟩
  subst hit
  rw [sortU_eq] at c37
  obtain ⟨hst, q⟩ := strictU_good (good_of c37)
  rw [q, flatK'_eq, forceN_eq] at c37
  clear q
  obtain ⟨M, hM, q⟩ := nxs_good (good_of c37)
  rw [q] at c37
  clear q
  have hM : M.toN = n.toN + (3 + 4 * es.length) := hM
  have key := sorted_call (mm := 95) hf hc hks hA hK hits hzb hzo hpm hcz hco hlp hlo l6 l7 l5 hS hok hst l1 l2 l3 l4 (M.toN_max) (by omega) l8
  refine (call2_all hρ hmix hT 100).1 f _ hs n _ (R.sat_mono ?_ key) φ w xs gs hr
  rintro r ⟨v', h', n', rfl, hold, hn', hres⟩
  rcases hres with ⟨h0, rfl⟩ | ⟨h0, q, rfl, hq, hqn⟩
  · subst h0
    replace c37 : R.rv (.nil .sl) hs M = .rv v1 hh1 m1 := c37
    cases c37
    exact ⟨.inl ⟨rfl, rfl⟩, fun p hp => ⟨(hold p (hacc p hp)).symm, hOld p hp⟩, by omega⟩
  · have c37 : R.rv (.sl n 0 es.length es.length false 2) (hputS n hs (some (.c (.l (flatI (sortUL (es.map (itmE es))))) false none))) M = .rv v1 hh1 m1 := by
      rw [← c37]
      have hll : (sortUL (es.map (itmE es))).length = es.length := by rw [(sortUL_perm _).length_eq, List.length_map]
      generalize sortUL (es.map (itmE es)) = sl at hll ⊢
      cases sl with
      | nil => exact absurd (List.eq_nil_of_length_eq_zero hll.symm) h0
      | cons s sl =>
        show _ = hputR n hs (some (.c (.l (flatI (s :: sl))) false none)) fun hf => .rv (.sl n 0 es.length es.length false 2) hf M
        rw [hputR_at]
    cases c37
    have hno : oldV n (.sl n 0 es.length es.length false 2) = false := by
      show ltK n n = false
      cases hl : ltK n n with
      | false => rfl
      | true => have := ltK_iff.1 hl; omega
    rcases res with ⟨ho, _⟩ | ⟨_, p, p', off', len', cap', ex', esz', e1, e2, hp1, hp2, hcl, hob⟩
    · rw [hno] at ho; cases ho
    · cases e1
      refine ⟨.inr ⟨hno, n, q, 0, _, _, false, 2, rfl, rfl, Nat.le_refl _, hqn, by rw [hget_hputS_same, hq], hob⟩, fun p hp => ⟨?_, hOld p hp⟩, by omega⟩
      rw [hget_hputS_ne _ _ (ne_of_lt (hacc p hp)).symm]
      exact (hold p (hacc p hp)).symm
end
end Go.Ev
