/- AN EVALUATOR OF THE MODEL OF Go, PROVED SOUND, PART 5: what it says of a call holds in every world, on every tape. Conditions: none of its own; each theorem bears its premises. -/
import Derived.Test.YtddknjmlhbeabaaEv4
set_option linter.unusedSimpArgs false
set_option linter.unusedVariables false
namespace Go.Ev
set_option linter.unusedVariables false
set_option maxRecDepth 100000
noncomputable abbrev valZ : List V := [(iL 0), (iL 0), (iL 0), (iI 0), (iI 0), (.nil .sl), (iI 0), (.bool false)]
noncomputable def delR (c : CF2) (z3 : V) (t : S) (h : Heap) (n : K4) : R :=
  entK' z3 h n fun z6 h n => v_ext 0 z6 fun z7 => v_ext 1 z6 fun z8 => v_alc (.l [(iW 0), (.str 0 0)]) h n fun z9 h n => v_alc (.l valZ) h n fun za h n => v_st 2 z9 z7 h fun h => v_st 8 za z8 h fun h => g1 t fun zb => v_ldn 2 z9 h fun zc => v_ldn 8 za h fun zd => dclK c zb [zc, zd] h n fun ze h n =>
    joinX (vif ze (g0 t fun zf => v_ldn 2 z9 h fun zg => v_del (.ks [.i, .s]) zf zg h fun h => nR t h n) (nR t h n)) fun t h n => nR t h n
noncomputable def delB' (c : CF2) : S → Heap → K4 → R := fun t h n => g2 t fun z3 => nxtK z3 h n fun z4 h n => v_ext 0 z4 fun z5 => vif z5 (blockX 1 (delR c z3 t h n) fun t h n => nR t h n) <| .ok (.exit 0) t h n
noncomputable def delE : Ent := .code (fun l k => unK l fun a0 l => unK l fun a1 l => nlK l <| k (.mk (.mk a0 a1 U U) Q0 Q0 Q0 Q0 Q0 Q0 Q0))
  (fun c t h n => g0 t fun z1 => rngK z1 h n fun z2 h n => blockX 0 (w2 t z2 fun t => loopX (delB' c) t h n) fun t h n => nR t h n) (fun t h n => .rv (.tup []) h n)
noncomputable def cloE : Ent := .code (fun l k => unK l fun a0 l => unK l fun a1 l => unK l fun a2 l => nlK l <| k (.mk (.mk a0 a1 a2 U) Q0 Q0 Q0 Q0 Q0 Q0 Q0))
  (fun c t h n => g0 t fun z1 => v_box z1 h n fun z2 h n => g1 t fun z3 => v_box z3 h n fun z4 h n => v_fad 0 z2 fun z5 => v_ld z5 h fun z6 => g2 t fun z7 => v_ld z7 h fun z8 => b_eql z6 z8 fun z9 => w3 t z9 fun t => rT t h n) (fun t h n => g3 t fun a0 => .rv a0 h n)
/-- The registers of the range. -/
noncomputable def dT (pm : K4) (g : Nat) (zb : K4) (zo : Nat) (it : K4) : S := .mk (.mk (.map pm) (.fn g [.ptr zb zo]) (.ptr it 0) U) Q0 Q0 Q0 Q0 Q0 Q0 Q0
section
variable {h : Heap} {n n' p : K4}
theorem v_stN_at {xs l : List V} {m : Nat} {κ : Heap → R} (hp : hget p h = some (.c (.l xs) false none)) (hx : xs.length = m) (hl : l.length = m) : v_st m (.ptr p 0) (.agg l) h κ = κ (hputS p h (some (.c (.l l) false none))) := by
  show lenK l (fun k => br (Nat.beq k m) (storeR h p 0 (.l l) κ) (.fail "a store of another size")) = _
  rw [lenK_eq, hl, Nat.beq_refl, br_true, storeR_eq]
  unfold storeK
  rw [obK_at hp, br_false, splC_all (by omega), killK_eq, hput_eq]; rfl
theorem v_ldnN_at {l : List V} {m : Nat} {sup : Bool} {prev : Option K4} {κ : V → R} (hp : hget p h = some (.c (.l l) sup prev)) (hl : l.length = m) : v_ldn m (.ptr p 0) h κ = κ (.agg l) := by
  show obR p h (fun cs _ _ => rangeC cs 0 m fun y => listC y fun l => κ (.agg l)) = _
  rw [obR_at hp, ← hl, rangeC_at]; rfl
theorem v_box_at {l : List V} {κ : KV} (hn : ∀ k : K4 → R, n.nx k = k n') : v_box (.agg l) h n κ = κ (.ptr n 0) (hputS n h (some (.c (.l l) false none))) n' := by
  show newR h n (.c (.l l) false none) (fun h' n' => κ (.ptr n 0) h' n') = _
  rw [newR_at hn]
end
/-- What the closure tells. -/
def mtB (tn : Nat) (e : V × V) : Bool := match e.1 with
  | .agg [.int .u32 t, .str _ _] => Nat.beq t tn
  | _ => false
def keyOf3 (e : V × V) : Option (Nat × Nat × Nat) := match e.1 with
  | .agg [.int .u32 t, .str m c] => some (t, m, c)
  | _ => none
theorem delK_at {t m c : Nat} {κ : List (V × V) → R} : ∀ {es : List (V × V)} {i : Nat} {x : V}, (∀ e ∈ es, Shaped e) → es[i]? = some (.agg [.int .u32 t, .str m c], x) → (∀ j, j < i → ∀ e, es[j]? = some e → keyOf3 e ≠ some (t, m, c)) → delK (.ks [.i, .s]) (.agg [.int .u32 t, .str m c]) es κ = κ (es.eraseIdx i)
  | [], i, x, _, h, _ => by simp at h
  | (k, y) :: es, i, x, hS, h, hd => by
    obtain ⟨t', m', c', _, hk⟩ := hS (k, y) (List.mem_cons_self ..)
    have hk : k = .agg [.int .u32 t', .str m' c'] := hk
    subst hk
    show eqK (.ks [.i, .s]) (.agg [.int .u32 t, .str m c]) (.agg [.int .u32 t', .str m' c']) (fun r => br r (κ es) (delK (.ks [.i, .s]) (.agg [.int .u32 t, .str m c]) es fun l => κ ((.agg [.int .u32 t', .str m' c'], y) :: l))) = _
    rw [eqK_key]
    cases i with
    | zero =>
      simp at h
      obtain ⟨⟨rfl, rfl, rfl⟩, rfl⟩ := h
      rw [decide_eq_true ⟨rfl, rfl, rfl⟩]; rfl
    | succ i =>
      have := hd 0 (by omega) _ rfl
      have hne : ¬ (t = t' ∧ m = m' ∧ c = c') := fun ⟨e1, e2, e3⟩ => this (by subst e1 e2 e3; rfl)
      rw [decide_eq_false hne]
      show delK (.ks [.i, .s]) (.agg [.int .u32 t, .str m c]) es (fun l => κ ((.agg [.int .u32 t', .str m' c'], y) :: l)) = _
      rw [delK_at (i := i) (x := x) (fun e he => hS e (List.mem_cons_of_mem _ he)) (by simpa using h) (fun j hj e he => hd (j + 1) (by omega) e (by simpa using he))]
      rfl
theorem delB_at {t m c : Nat} {κ : List Nat → R} : ∀ {es : List (V × V)} {bs : List Nat} {i : Nat} {x : V}, es.length = bs.length → (∀ e ∈ es, Shaped e) → es[i]? = some (.agg [.int .u32 t, .str m c], x) → (∀ j, j < i → ∀ e, es[j]? = some e → keyOf3 e ≠ some (t, m, c)) → delB (.ks [.i, .s]) (.agg [.int .u32 t, .str m c]) es bs κ = κ (bs.eraseIdx i)
  | [], bs, i, x, _, _, h, _ => by simp at h
  | (k, y) :: es, [], i, x, hl, _, _, _ => by simp at hl
  | (k, y) :: es, b :: bs, i, x, hl, hS, h, hd => by
    obtain ⟨t', m', c', _, hk⟩ := hS (k, y) (List.mem_cons_self ..)
    have hk : k = .agg [.int .u32 t', .str m' c'] := hk
    subst hk
    show eqK (.ks [.i, .s]) (.agg [.int .u32 t, .str m c]) (.agg [.int .u32 t', .str m' c']) (fun r => br r (κ bs) (delB (.ks [.i, .s]) (.agg [.int .u32 t, .str m c]) es bs fun l => κ (b :: l))) = _
    rw [eqK_key]
    cases i with
    | zero =>
      simp at h
      obtain ⟨⟨rfl, rfl, rfl⟩, rfl⟩ := h
      rw [decide_eq_true ⟨rfl, rfl, rfl⟩]; rfl
    | succ i =>
      have := hd 0 (by omega) _ rfl
      have hne : ¬ (t = t' ∧ m = m' ∧ c = c') := fun ⟨e1, e2, e3⟩ => this (by subst e1 e2 e3; rfl)
      rw [decide_eq_false hne]
      show delB (.ks [.i, .s]) (.agg [.int .u32 t, .str m c]) es bs (fun l => κ (b :: l)) = _
      rw [delB_at (i := i) (x := x) (by simpa using hl) (fun e he => hS e (List.mem_cons_of_mem _ he)) (by simpa using h) (fun j hj e he => hd (j + 1) (by omega) e (by simpa using he))]
      rfl
theorem v_del_at {t m c clk : Nat} {p : K4} {h : Heap} {κ : Heap → R} {es : List (V × V)} {bs : List Nat} {i : Nat} {x : V} (hp : hget p h = some (.m es bs clk)) (hl : es.length = bs.length) (hS : ∀ e ∈ es, Shaped e) (he : es[i]? = some (.agg [.int .u32 t, .str m c], x)) (hd : ∀ j, j < i → ∀ e, es[j]? = some e → keyOf3 e ≠ some (t, m, c)) :
    v_del (.ks [.i, .s]) (.map p) (.agg [.int .u32 t, .str m c]) h κ = κ (hputS p h (some (.m (es.eraseIdx i) (bs.eraseIdx i) clk))) := by
  show mopR p h (fun es bs cl k => delK (.ks [.i, .s]) (.agg [.int .u32 t, .str m c]) es fun es2 => delB (.ks [.i, .s]) (.agg [.int .u32 t, .str m c]) es bs fun bs => k es2 bs cl) κ = _
  rw [mopR_eq, ← mpR_eq, mpR_at hp, delK_at hS he hd, delB_at hl hS he hd]
  show hput p h (some (.m (es.eraseIdx i) (bs.eraseIdx i) clk)) κ = _
  rw [hput_eq]
theorem vif_t {a b : R} : vif (.bool true) a b = a := rfl
/-- A call of the closure. -/
theorem clo_call {T : FC} {g : FuncId} {m' : Nat} (hg : tabG (fnKey g) T = some cloE) {h : Heap} {n n1 n2 zb : K4} {zo t tn m c : Nat} {l bx : List V} {sup : Bool} {prev : Option K4} (hx1 : ∀ k : K4 → R, n.nx k = k n1) (hx2 : ∀ k : K4 → R, n1.nx k = k n2) (hn1 : n1.toN = n.toN + 1) (hzb : hget zb h = some (.c (.l bx) sup prev)) (hzo : bx[zo]? = some (.int .u32 tn)) (hz : zb.toN < n.toN) :
    call2 T (m' + 1) (fnKey g) [.agg [.int .u32 t, .str m c], .agg l, .ptr zb zo] h n = .rv (.bool (Nat.beq t tn)) (hputS n1 (hputS n h (some (.c (.l [.int .u32 t, .str m c]) false none))) (some (.c (.l l) false none))) n2 := by
  rw [call2_at, hg]
  show retX (v_box (.agg [.int .u32 t, .str m c]) h n _) _ = _
  rw [v_box_at hx1]
  show retX (v_box (.agg l) _ n1 _) _ = _
  rw [v_box_at hx2]
  show retX (v_fad 0 (.ptr n 0) _) _ = _
  rw [v_fad_at]
  show retX (v_ld (.ptr n (0 + 0)) _ _) _ = _
  rw [ld_at (v := .int .u32 t) (by rw [hget_hputS_ne _ _ (ne_of_lt (by omega : n.toN < n1.toN)).symm, hget_hputS_same]) rfl]
  show retX (v_ld (.ptr zb zo) _ _) _ = _
  rw [ld_at (v := .int .u32 tn) (by rw [hget_hputS_ne _ _ (ne_of_lt (by omega : zb.toN < n1.toN)).symm, hget_hputS_ne _ _ (ne_of_lt hz).symm]; exact hzb) hzo, b_eql_int]
  rfl
def ValOK (e : V × V) : Prop := ∃ l, e.2 = .agg l ∧ l.length = 8
section
variable {hs h : Heap} {n0 n pm it zb : K4} {zo tn clk : Nat} {es : List (V × V)} {bs : List Nat} {bx : List V} {supb : Bool} {prevb : Option K4} {T : FC} {g : FuncId} {mm : Nat}
theorem delR_step {seen : List Nat} {e : V × V} {b i : Nat} (hg : tabG (fnKey g) T = some cloE) (hit : hget it h = some (.it pm clk (b :: seen) clk)) (hm : hget pm h = some (.m es bs clk)) (hzb : hget zb h = some (.c (.l bx) supb prevb)) (hzo : bx[zo]? = some (.int .u32 tn))
    (he : es[i]? = some e) (hb : bs[i]? = some b) (hlen : es.length = bs.length) (hnd : bs.Nodup) (hS : ∀ e ∈ es, Shaped e) (hV : ValOK e) (hd : ∀ j, j < i → ∀ e', es[j]? = some e' → keyOf3 e' ≠ keyOf3 e) (hpm : pm.toN < n0.toN) (hz : zb.toN < n0.toN) (hzm : zb ≠ pm) (hi0 : n0.toN ≤ it.toN) (hin : it.toN < n.toN) (hN : n.toN + 4 ≤ 65535) :
    ∃ h' n', delR (call2 T (mm + 1)) (.ptr it 0) (dT pm g zb zo it) h n = nR (dT pm g zb zo it) h' n' ∧ n.toN ≤ n'.toN ∧ n'.toN ≤ n.toN + 4 ∧ (∀ p, (p.toN < n0.toN ∧ p ≠ pm) ∨ p = it → hget p h' = hget p h) ∧
      hget pm h' = some (if mtB tn e then .m (es.eraseIdx i) (bs.eraseIdx i) clk else .m es bs clk) := by
  obtain ⟨n1, hn1, hx1⟩ := K4.nx_u n (by omega)
  obtain ⟨n2, hn2, hx2⟩ := K4.nx_u n1 (by omega)
  obtain ⟨n3, hn3, hx3⟩ := K4.nx_u n2 (by omega)
  obtain ⟨n4, hn4, hx4⟩ := K4.nx_u n3 (by omega)
  obtain ⟨t, m, c, hc, hk⟩ := hS e (List.mem_of_getElem? he)
  obtain ⟨k, x⟩ := e
  have hk : k = .agg [.int .u32 t, .str m c] := hk
  subst hk
  obtain ⟨l8, hl8, hl8'⟩ := hV
  have hl8 : x = .agg l8 := hl8
  subst hl8
  have hfirst : ∀ j, j < i → bs[j]? ≠ some b := fun j hj e => by
    obtain ⟨l1, e1⟩ := (List.getElem?_eq_some_iff.1 e)
    obtain ⟨l2, e2⟩ := (List.getElem?_eq_some_iff.1 hb)
    exact List.pairwise_iff_getElem.1 hnd j i l1 l2 hj (e1.trans e2.symm)
  have ent : ∀ κ : KV, entK' (.ptr it 0) h n κ = κ (.tup [.agg [.int .u32 t, .str m c], .agg l8]) h n := fun κ => by
    show itR it h (.fail "entry") _ = _
    rw [itR_at hit]
    show mpR pm h _ = _
    rw [mpR_at hm]
    show br (Nat.beq clk clk) (findB b es bs fun k x => κ (.tup [k, x]) h n) (.fail "an insertion") = _
    rw [Nat.beq_refl, br_true, findB_at he hb hfirst]
  obtain ⟨h1, eh1⟩ : ∃ h1, h1 = hputS n1 (hputS n (hputS n1 (hputS n h (some (.c (.l [iW 0, .str 0 0]) false none))) (some (.c (.l valZ) false none))) (some (.c (.l [.int .u32 t, .str m c]) false none))) (some (.c (.l l8) false none)) := ⟨_, rfl⟩
  have nn1 : n ≠ n1 := ne_of_lt (by omega)
  have ga : hget n1 h1 = some (.c (.l l8) false none) := by rw [eh1, hget_hputS_same]
  have gk : hget n h1 = some (.c (.l [.int .u32 t, .str m c]) false none) := by rw [eh1, hget_hputS_ne _ _ nn1.symm, hget_hputS_same]
  have g1' : ∀ p, p.toN < n.toN → hget p h1 = hget p h := fun p hp => by
    rw [eh1, hget_hputS_ne _ _ (ne_of_lt (by omega : p.toN < n1.toN)).symm, hget_hputS_ne _ _ (ne_of_lt hp).symm, hget_hputS_ne _ _ (ne_of_lt (by omega : p.toN < n1.toN)).symm, hget_hputS_ne _ _ (ne_of_lt hp).symm]
  obtain ⟨h2, eh2⟩ : ∃ h2, h2 = hputS n3 (hputS n2 h1 (some (.c (.l [.int .u32 t, .str m c]) false none))) (some (.c (.l l8) false none)) := ⟨_, rfl⟩
  have g2' : ∀ p, p.toN < n2.toN → hget p h2 = hget p h1 := fun p hp => by
    rw [eh2, hget_hputS_ne _ _ (ne_of_lt (by omega : p.toN < n3.toN)).symm, hget_hputS_ne _ _ (ne_of_lt hp).symm]
  have hcall : call2 T (mm + 1) (fnKey g) [.agg [.int .u32 t, .str m c], .agg l8, .ptr zb zo] h1 n2 = .rv (.bool (Nat.beq t tn)) h2 n4 := by
    rw [clo_call hg hx3 hx4 hn3 (by rw [g1' zb (by omega)]; exact hzb) hzo (by omega), ← eh2]
  have step1 : delR (call2 T (mm + 1)) (.ptr it 0) (dT pm g zb zo it) h n = joinX (vif (.bool (Nat.beq t tn)) (v_ldn 2 (.ptr n 0) h2 fun zg => v_del (.ks [.i, .s]) (.map pm) zg h2 fun h => nR (dT pm g zb zo it) h n4) (nR (dT pm g zb zo it) h2 n4)) fun t h n => nR t h n := by
    unfold delR
    rw [ent, v_ext0, v_ext1]
    rw [v_alc_at hx1]
    show v_alc (.l valZ) _ n1 _ = _
    rw [v_alc_at hx2]
    show v_st 2 (.ptr n 0) (.agg [.int .u32 t, .str m c]) _ _ = _
    rw [v_st2_at (x := iW 0) (y := .str 0 0) (by rw [hget_hputS_ne _ _ nn1.symm, hget_hputS_same])]
    show v_st 8 (.ptr n1 0) (.agg l8) _ _ = _
    rw [v_stN_at (m := 8) (xs := valZ) (by rw [hget_hputS_ne _ _ nn1, hget_hputS_same]) rfl hl8', ← eh1]
    show v_ldn 2 (.ptr n 0) h1 _ = _
    rw [v_ldn2_at gk]
    show v_ldn 8 (.ptr n1 0) h1 _ = _
    rw [v_ldnN_at ga hl8']
    show tcallK (call2 T (mm + 1) (fnKey g) [.agg [.int .u32 t, .str m c], .agg l8, .ptr zb zo] h1 n2) _ = _
    rw [hcall]
    rfl
  have hfr : ∀ p, (p.toN < n0.toN ∧ p ≠ pm) ∨ p = it → hget p h2 = hget p h := fun p hp => by
    have : p.toN < n.toN := by rcases hp with hp | rfl <;> omega
    rw [g2' p (by omega), g1' p this]
  have hpm2 : hget pm h2 = some (.m es bs clk) := by rw [g2' pm (by omega), g1' pm (by omega)]; exact hm
  cases hb2 : Nat.beq t tn with
  | false =>
    refine ⟨h2, n4, by rw [step1, hb2]; rfl, by omega, by omega, hfr, ?_⟩
    have : mtB tn (.agg [.int .u32 t, .str m c], .agg l8) = false := hb2
    rw [this]; exact hpm2
  | true =>
    have hmt : mtB tn (.agg [.int .u32 t, .str m c], .agg l8) = true := hb2
    have hd' : ∀ j, j < i → ∀ e, es[j]? = some e → keyOf3 e ≠ some (t, m, c) := fun j hj e he' => hd j hj e he'
    refine ⟨hputS pm h2 (some (.m (es.eraseIdx i) (bs.eraseIdx i) clk)), n4, ?_, by omega, by omega, fun p hp => ?_, by rw [hget_hputS_same, hmt]; rfl⟩
    · rw [step1, hb2]
      rw [vif_t, v_ldn2_at (by rw [g2' n (by omega)]; exact gk), v_del_at hpm2 hlen hS he hd']
      rfl
    · have hne : pm ≠ p := by rcases hp with hp | rfl
                              · exact hp.2.symm
                              · exact ne_of_lt (by omega)
      rw [hget_hputS_ne _ _ hne]
      exact hfr p hp
/-- What is left of the entries. -/
noncomputable def curZ (tn : Nat) (zs : List ((V × V) × Nat)) (seen : List Nat) : List ((V × V) × Nat) := zs.filter fun y => !(memN y.2 seen && mtB tn y.1)
noncomputable def unsZ (zs : List ((V × V) × Nat)) (seen : List Nat) : List ((V × V) × Nat) := zs.filter fun y => !memN y.2 seen
theorem memN_cons {b x : Nat} {l : List Nat} : memN x (b :: l) = (Nat.beq b x || memN x l) := by
  show br (Nat.beq b x) true (memN x l) = _
  cases Nat.beq b x <;> rfl
theorem beq_eq {a b : Nat} : Nat.beq a b = decide (a = b) := by
  cases h : Nat.beq a b with
  | true => rw [decide_eq_true (Nat.eq_of_beq_eq_true h)]
  | false => rw [decide_eq_false (fun e => by subst e; rw [Nat.beq_refl] at h; cases h)]
theorem nodup_snd {zs : List ((V × V) × Nat)} (h : (zs.map (·.2)).Nodup) {y y' : (V × V) × Nat} (hy : y ∈ zs) (hy' : y' ∈ zs) (e : y.2 = y'.2) : y = y' := by
  obtain ⟨i, hi, rfl⟩ := List.mem_iff_getElem.1 hy
  obtain ⟨j, hj, rfl⟩ := List.mem_iff_getElem.1 hy'
  have hi' : i < (zs.map (·.2)).length := by simpa using hi
  have hj' : j < (zs.map (·.2)).length := by simpa using hj
  have e' : (zs.map (·.2))[i] = (zs.map (·.2))[j] := by simpa using e
  rcases Nat.lt_trichotomy i j with hlt | rfl | hlt
  · exact absurd e' (List.pairwise_iff_getElem.1 h i j hi' hj' hlt)
  · rfl
  · exact absurd e'.symm (List.pairwise_iff_getElem.1 h j i hj' hi' hlt)
theorem map_erase {α β : Type} (f : α → β) : ∀ (l : List α) (i : Nat), (l.map f).eraseIdx i = (l.eraseIdx i).map f
  | [], _ => rfl
  | _ :: _, 0 => rfl
  | x :: l, i + 1 => by
    show f x :: (l.map f).eraseIdx i = f x :: (l.eraseIdx i).map f
    rw [map_erase f l i]
theorem eraseIdx_filter : ∀ {zs : List ((V × V) × Nat)} {i : Nat} {y : (V × V) × Nat}, (zs.map (·.2)).Nodup → zs[i]? = some y → zs.eraseIdx i = zs.filter fun z => !decide (z.2 = y.2)
  | [], i, y, _, h => by simp at h
  | z :: zs, 0, y, hn, h => by
    simp at h
    subst h
    have hn : (z.2 :: zs.map (·.2)).Nodup := by simpa using hn
    obtain ⟨h1, h2⟩ := List.nodup_cons.1 hn
    rw [List.filter_cons_of_neg (by simp)]
    show zs = _
    exact (List.filter_eq_self.2 fun a ha => by
      have : a.2 ≠ z.2 := fun e => h1 (List.mem_map.2 ⟨a, ha, e⟩)
      simp [this]).symm
  | z :: zs, i + 1, y, hn, h => by
    have hn : (z.2 :: zs.map (·.2)).Nodup := by simpa using hn
    obtain ⟨h1, h2⟩ := List.nodup_cons.1 hn
    have h : zs[i]? = some y := by simpa using h
    have hne : z.2 ≠ y.2 := fun e => h1 (List.mem_map.2 ⟨y, List.mem_of_getElem? h, e.symm⟩)
    rw [List.filter_cons_of_pos (by simp [hne])]
    show z :: zs.eraseIdx i = _
    rw [eraseIdx_filter h2 h]
theorem curZ_step {zs : List ((V × V) × Nat)} {seen : List Nat} (hn : (zs.map (·.2)).Nodup) {i : Nat} {y : (V × V) × Nat} (hi : (curZ tn zs seen)[i]? = some y) :
    curZ tn zs (y.2 :: seen) = if mtB tn y.1 then (curZ tn zs seen).eraseIdx i else curZ tn zs seen := by
  have hy : y ∈ curZ tn zs seen := List.mem_of_getElem? hi
  have hyz : y ∈ zs := (List.mem_filter.1 hy).1
  have hnc : ((curZ tn zs seen).map (·.2)).Nodup := List.Nodup.sublist (List.Sublist.map _ List.filter_sublist) hn
  cases hmt : mtB tn y.1 with
  | true =>
    rw [if_pos rfl, eraseIdx_filter hnc hi]
    unfold curZ
    rw [List.filter_filter]
    refine List.filter_congr fun z hz => ?_
    rw [memN_cons, beq_eq]
    by_cases e : z.2 = y.2
    · have := nodup_snd hn hz hyz e
      subst this
      simp [hmt]
    · simp [e, Ne.symm e]
  | false =>
    show _ = curZ tn zs seen
    unfold curZ
    refine List.filter_congr fun z hz => ?_
    rw [memN_cons, beq_eq]
    by_cases e : z.2 = y.2
    · have := nodup_snd hn hz hyz e
      subst this
      simp [hmt]
    · simp [Ne.symm e]
theorem unsZ_step {zs : List ((V × V) × Nat)} {seen : List Nat} {y : (V × V) × Nat} (hy : y ∈ zs) (hu : memN y.2 seen = false) : (unsZ zs (y.2 :: seen)).length + 1 ≤ (unsZ zs seen).length := by
  have e : unsZ zs (y.2 :: seen) = (unsZ zs seen).filter fun z => !decide (z.2 = y.2) := by
    unfold unsZ
    rw [List.filter_filter]
    refine List.filter_congr fun z hz => ?_
    rw [memN_cons, beq_eq]
    by_cases e : z.2 = y.2
    · simp [e]
    · simp [e, Ne.symm e]
  rw [e]
  have hm : y ∈ unsZ zs seen := List.mem_filter.2 ⟨hy, by rw [hu]; rfl⟩
  exact List.length_filter_lt_length_iff_exists.2 ⟨y, hm, by simp⟩
theorem key_dist {zs : List ((V × V) × Nat)} (hk : zs.Pairwise fun a b => keyOf3 a.1 ≠ keyOf3 b.1) {seen : List Nat} {i j : Nat} {y z : (V × V) × Nat} (hj : j < i) (hy : (curZ tn zs seen)[i]? = some y) (hz : (curZ tn zs seen)[j]? = some z) : keyOf3 z.1 ≠ keyOf3 y.1 := by
  have hp : (curZ tn zs seen).Pairwise fun a b => keyOf3 a.1 ≠ keyOf3 b.1 := List.Pairwise.sublist List.filter_sublist hk
  obtain ⟨l1, rfl⟩ := List.getElem?_eq_some_iff.1 hy
  obtain ⟨l2, rfl⟩ := List.getElem?_eq_some_iff.1 hz
  exact List.pairwise_iff_getElem.1 hp j i l2 l1 hj
/-- THE RANGE. -/
theorem del_loop {zs : List ((V × V) × Nat)} (hg : tabG (fnKey g) T = some cloE) (hzb : hget zb hs = some (.c (.l bx) supb prevb)) (hzo : bx[zo]? = some (.int .u32 tn)) (hnd : (zs.map (·.2)).Nodup) (hlt : ∀ y ∈ zs, y.2 < clk) (hS : ∀ y ∈ zs, Shaped y.1) (hV : ∀ y ∈ zs, ValOK y.1) (hk : zs.Pairwise fun a b => keyOf3 a.1 ≠ keyOf3 b.1)
    (hpm : pm.toN < n0.toN) (hz : zb.toN < n0.toN) (hzm : zb ≠ pm) (hi0 : n0.toN ≤ it.toN) {N : Nat} (hN : N ≤ 65535) :
    ∀ (k : Nat) (h : Heap) (n : K4) (seen : List Nat), (unsZ zs seen).length < k → (∀ p, p.toN < n0.toN → p ≠ pm → hget p h = hget p hs) → hget pm h = some (.m ((curZ tn zs seen).map (·.1)) ((curZ tn zs seen).map (·.2)) clk) → hget it h = some (.it pm clk seen clk) → it.toN < n.toN →
      n.toN + 4 * (unsZ zs seen).length ≤ N →
      (itK (delB' (call2 T (mm + 1))) k (dT pm g zb zo it) h n).sat fun r => ∃ h' n', r = .ok (.exit 0) (dT pm g zb zo it) h' n' ∧ (∀ p, p.toN < n0.toN → p ≠ pm → hget p h' = hget p hs) ∧
        hget pm h' = some (.m ((zs.filter fun y => !mtB tn y.1).map (·.1)) ((zs.filter fun y => !mtB tn y.1).map (·.2)) clk) ∧ n'.toN ≤ N := by
  intro k
  induction k with
  | zero => intro h n seen hk; omega
  | succ k ih =>
    intro h n seen hk' hold hpmh hit hin hnN
    rw [itK_round]
    show R.sat _ (onX (delB' (call2 T (mm + 1)) (dT pm g zb zo it) h n) (itK (delB' (call2 T (mm + 1))) k))
    apply onX_to
    show R.sat _ (nxtK (.ptr it 0) h n fun z4 h n => v_ext 0 z4 fun z5 => vif z5 (blockX 1 (delR (call2 T (mm + 1)) (.ptr it 0) (dT pm g zb zo it) h n) fun t h n => nR t h n) <| .ok (.exit 0) (dT pm g zb zo it) h n)
    unfold nxtK
    show R.sat _ (itR it h _ _)
    rw [itR_at hit]
    show R.sat _ (mpR pm h _)
    have hlt' : allLt clk ((curZ tn zs seen).map (·.2)) = true := by
      have : ∀ l : List Nat, (∀ b ∈ l, b < clk) → allLt clk l = true := fun l hl => by
        induction l with
        | nil => rfl
        | cons b l ihl =>
          show br (Nat.ble (Nat.succ b) clk) (allLt clk l) false = true
          rw [ble_iff.2 (hl b (List.mem_cons_self ..)), br_true]
          exact ihl fun b hb => hl b (List.mem_cons_of_mem _ hb)
      refine this _ fun b hb => ?_
      obtain ⟨y, hy, rfl⟩ := List.mem_map.1 hb
      exact hlt y (List.mem_filter.1 hy).1
    rw [mpR_at hpmh, hlt', br_true, show Nat.ble clk clk = true from ble_iff.2 (Nat.le_refl _), br_true]
    refine goNone_to (by simp) (fun hall => ?_) fun i e b he hb hn => ?_
    · have e0 : curZ tn zs seen = zs.filter fun y => !mtB tn y.1 := by
        unfold curZ
        refine List.filter_congr fun y hy => ?_
        cases hu : memN y.2 seen with
        | true => simp
        | false =>
          exfalso
          have hyc : y ∈ curZ tn zs seen := List.mem_filter.2 ⟨hy, by rw [hu]; rfl⟩
          have := hall y.2 (List.mem_map.2 ⟨y, hyc, rfl⟩)
          rw [hu] at this; cases this
      rw [e0] at hpmh
      exact ⟨h, n, rfl, hold, hpmh, by omega⟩
    · obtain ⟨y, hyi, rfl, rfl⟩ : ∃ y, (curZ tn zs seen)[i]? = some y ∧ y.1 = e ∧ y.2 = b := by
        rw [List.getElem?_map] at he hb
        cases hx : (curZ tn zs seen)[i]? with
        | none => rw [hx] at he; cases he
        | some y =>
          rw [hx] at he hb
          exact ⟨y, rfl, by simpa using he, by simpa using hb⟩
      have hyc : y ∈ curZ tn zs seen := List.mem_of_getElem? hyi
      have hyz : y ∈ zs := (List.mem_filter.1 hyc).1
      unfold leafK
      rw [hputR_at]
      obtain ⟨h1, eh1⟩ : ∃ h1, h1 = hputS it h (some (.it pm clk (y.2 :: seen) clk)) := ⟨_, rfl⟩
      rw [← eh1]
      have g1 : hget it h1 = some (.it pm clk (y.2 :: seen) clk) := by rw [eh1, hget_hputS_same]
      have g1' : ∀ p, p ≠ it → hget p h1 = hget p h := fun p hp => by rw [eh1, hget_hputS_ne _ _ hp.symm]
      have hpi : pm ≠ it := ne_of_lt (by omega)
      have hpm1 : hget pm h1 = some (.m ((curZ tn zs seen).map (·.1)) ((curZ tn zs seen).map (·.2)) clk) := by rw [g1' pm hpi]; exact hpmh
      have hnc : ((curZ tn zs seen).map (·.2)).Nodup := List.Nodup.sublist (List.Sublist.map _ List.filter_sublist) hnd
      have huns := unsZ_step hyz hn
      obtain ⟨h', n', hR, hn1, hn2, hfr, hpm'⟩ := delR_step (n0 := n0) (n := n) (mm := mm) (seen := seen) (i := i) hg g1 hpm1 (by rw [g1' zb (ne_of_lt (by omega)), hold zb hz hzm]; exact hzb) hzo he hb (by simp) hnc
        (fun e he' => by obtain ⟨z, hz', rfl⟩ := List.mem_map.1 he'; exact hS z (List.mem_filter.1 hz').1) (hV y hyz)
        (fun j hj e' he' => by
          rw [List.getElem?_map] at he'
          cases hx : (curZ tn zs seen)[j]? with
          | none => rw [hx] at he'; cases he'
          | some z =>
            rw [hx] at he'
            have he' : z.1 = e' := by simpa using he'
            subst he'
            exact key_dist hk hj hyi hx)
        hpm hz hzm hi0 hin (by omega)
      obtain ⟨⟨ek, ex⟩, eb⟩ := y
      show R.sat _ (blockX 1 (delR (call2 T (mm + 1)) (.ptr it 0) (dT pm g zb zo it) h1 n) fun t h n => nR t h n)
      rw [hR]
      show R.sat _ (itK (delB' (call2 T (mm + 1))) k (dT pm g zb zo it) h' n')
      refine ih h' n' (eb :: seen) (by simp only at huns; omega) (fun p hp hne => by rw [hfr p (.inl ⟨hp, hne⟩), g1' p (ne_of_lt (by omega)), hold p hp hne]) ?_ (by rw [hfr it (.inr rfl)]; exact g1) (by omega) (by simp only at huns; omega)
      rw [hpm', curZ_step hnd hyi]
      cases hmt : mtB tn (ek, ex) with
      | true => simp only [if_true]; rw [map_erase, map_erase]
      | false => rfl
theorem del_call {zs : List ((V × V) × Nat)} {f : FuncId} (hf : tabG (fnKey f) T = some delE) (hg : tabG (fnKey g) T = some cloE) (hpmh : hget pm hs = some (.m (zs.map (·.1)) (zs.map (·.2)) clk)) (hzb : hget zb hs = some (.c (.l bx) supb prevb)) (hzo : bx[zo]? = some (.int .u32 tn)) (hnd : (zs.map (·.2)).Nodup) (hlt : ∀ y ∈ zs, y.2 < clk) (hS : ∀ y ∈ zs, Shaped y.1) (hV : ∀ y ∈ zs, ValOK y.1) (hk : zs.Pairwise fun a b => keyOf3 a.1 ≠ keyOf3 b.1)
    (hpm : pm.toN < n0.toN) (hz : zb.toN < n0.toN) (hzm : zb ≠ pm) {N : Nat} (hN : N ≤ 65535) (hn : n0.toN + 1 + 4 * zs.length ≤ N) (hbig : zs.length ≤ 1000000) :
    (call2 T (mm + 2) (fnKey f) [.map pm, .fn g [.ptr zb zo]] hs n0).sat fun r => ∃ h' n', r = .rv (.tup []) h' n' ∧ (∀ p, p.toN < n0.toN → p ≠ pm → hget p h' = hget p hs) ∧
      hget pm h' = some (.m ((zs.filter fun y => !mtB tn y.1).map (·.1)) ((zs.filter fun y => !mtB tn y.1).map (·.2)) clk) ∧ n'.toN ≤ N := by
  obtain ⟨n1, hn1, hx1⟩ := K4.nx_u n0 (by omega)
  rw [call2_at, hf]
  apply retX_to
  show R.sat _ (mpR pm hs _)
  rw [mpR_at hpmh]
  show R.sat _ (newR hs n0 (.it pm clk [] clk) _)
  rw [newR_at hx1]
  obtain ⟨h1, eh1⟩ : ∃ h1, h1 = hputS n0 hs (some (.it pm clk [] clk)) := ⟨_, rfl⟩
  rw [← eh1]
  have g1' : ∀ p, p.toN < n0.toN → hget p h1 = hget p hs := fun p hp => by rw [eh1, hget_hputS_ne _ _ (ne_of_lt hp).symm]
  show R.sat _ (blockX 0 (itK (delB' (call2 T (mm + 1))) 1000000000 (dT pm g zb zo n0) h1 n1) _)
  apply blockX_to
  have e1 : curZ tn zs [] = zs := List.filter_eq_self.2 fun a _ => rfl
  have e2 : unsZ zs [] = zs := List.filter_eq_self.2 fun a _ => rfl
  have key := del_loop (mm := mm) (N := N) (n0 := n0) (it := n0) hg hzb hzo hnd hlt hS hV hk hpm hz hzm (Nat.le_refl _) hN 1000000000 h1 n1 [] (by rw [e2]; omega) (fun p hp _ => g1' p hp) (by rw [e1, g1' pm hpm]; exact hpmh) (by rw [eh1, hget_hputS_same]) (by omega) (by rw [e2]; omega)
  refine R.sat_mono ?_ key
  rintro r ⟨h', n', rfl, hold, hp', hn'⟩
  exact ⟨h', n', rfl, hold, hp', hn'⟩
end
noncomputable def noTwiceK (es : List (V × V)) (κ : R) : R := @List.rec (V × V) (fun _ => R) κ (fun e tl ih => @Prod.rec V V (fun _ => R) (fun k _ => lookK (.ks [.i, .s]) k tl (fun _ => .fail "a key twice") ih) e) es
theorem lookF_none {t m c : Nat} : ∀ {es : List (V × V)}, (∀ e ∈ es, Shaped e) → lookF t m c es = none → ∀ e ∈ es, keyOf3 e ≠ some (t, m, c)
  | [], _, _, e, he => by simp at he
  | (k, x) :: es, hS, h, e, he => by
    obtain ⟨t', m', c', _, hk⟩ := hS (k, x) (List.mem_cons_self ..)
    have hk : k = .agg [.int .u32 t', .str m' c'] := hk
    subst hk
    unfold lookF at h
    by_cases hc : t = t' ∧ m = m' ∧ c = c'
    · rw [if_pos hc] at h; cases h
    · rw [if_neg hc] at h
      rcases List.mem_cons.1 he with rfl | he
      · intro e
        simp only [keyOf3, Option.some.injEq, Prod.mk.injEq] at e
        exact hc ⟨e.1.symm, e.2.1.symm, e.2.2.symm⟩
      · exact lookF_none (fun e he => hS e (List.mem_cons_of_mem _ he)) h e he
theorem noTwiceK_good : ∀ {es : List (V × V)} {κ : R}, (∀ e ∈ es, Shaped e) → (noTwiceK es κ).good → es.Pairwise (fun a b => keyOf3 a ≠ keyOf3 b) ∧ noTwiceK es κ = κ
  | [], κ, _, _ => ⟨List.Pairwise.nil, rfl⟩
  | (k, x) :: es, κ, hS, h => by
    obtain ⟨t, m, c, _, hk⟩ := hS (k, x) (List.mem_cons_self ..)
    have hk : k = .agg [.int .u32 t, .str m c] := hk
    subst hk
    have hS' : ∀ e ∈ es, Shaped e := fun e he => hS e (List.mem_cons_of_mem _ he)
    have e0 : noTwiceK ((.agg [.int .u32 t, .str m c], x) :: es) κ = (match lookF t m c es with | some _ => .fail "a key twice" | none => noTwiceK es κ) := by
      show lookK (.ks [.i, .s]) (.agg [.int .u32 t, .str m c]) es (fun _ => .fail "a key twice") (noTwiceK es κ) = _
      rw [lookK_at hS']
      cases lookF t m c es <;> rfl
    rw [e0] at h ⊢
    cases hl : lookF t m c es with
    | some r => rw [hl] at h; exact h.elim
    | none =>
      rw [hl] at h
      obtain ⟨h1, h2⟩ := noTwiceK_good hS' (show R.good (noTwiceK es κ) from h)
      exact ⟨List.pairwise_cons.2 ⟨fun e he => (lookF_none hS' hl e he).symm, h1⟩, h2⟩
noncomputable def valsK (es : List (V × V)) (κ : R) : R := @List.rec (V × V) (fun _ => R) κ (fun e _ ih => @Prod.rec V V (fun _ => R) (fun _ x => asAgg x fun l => lenK l fun j => br (Nat.beq j 8) ih (.fail "a value")) e) es
theorem valsK_good : ∀ {es : List (V × V)} {κ : R}, (valsK es κ).good → (∀ e ∈ es, ValOK e) ∧ valsK es κ = κ
  | [], κ, _ => ⟨fun e he => by simp at he, rfl⟩
  | (k, x) :: es, κ, h => by
    have e0 : valsK ((k, x) :: es) κ = asAgg x fun l => lenK l fun j => br (Nat.beq j 8) (valsK es κ) (.fail "a value") := rfl
    rw [e0] at h ⊢
    obtain ⟨l, rfl, e1⟩ := asAgg_good' h
    rw [e1, lenK_eq] at h ⊢
    obtain ⟨hl, e2⟩ := br_good h
    rw [e2] at h ⊢
    obtain ⟨h1, h2⟩ := valsK_good h
    refine ⟨fun e he => ?_, h2⟩
    rcases List.mem_cons.1 he with rfl | he
    · exact ⟨l, rfl, Nat.eq_of_beq_eq_true hl⟩
    · exact h1 e he
/-- What stays. -/
noncomputable def mtK (tn : Nat) (k : V) (κ : Bool → R) : R := asAgg k fun l => unK l fun a l => unK l fun b l => nlK l (asI a fun _ t => forceB (Nat.beq t tn) κ)
noncomputable def keepK (tn : Nat) (es : List (V × V)) : List Nat → (List (V × V) → List Nat → R) → R :=
  @List.rec (V × V) (fun _ => List Nat → (List (V × V) → List Nat → R) → R) (fun bs κ => κ [] [])
    (fun e _ ih bs κ => @List.rec Nat (fun _ => R) (.fail "stamps") (fun b bs _ => @Prod.rec V V (fun _ => R) (fun k x => mtK tn k fun q => br q (ih bs κ) (ih bs fun es' bs' => κ ((k, x) :: es') (b :: bs'))) e) bs) es
theorem keepK_eq {tn : Nat} : ∀ {zs : List ((V × V) × Nat)} {κ : List (V × V) → List Nat → R}, (∀ y ∈ zs, Shaped y.1) → keepK tn (zs.map (·.1)) (zs.map (·.2)) κ = κ ((zs.filter fun y => !mtB tn y.1).map (·.1)) ((zs.filter fun y => !mtB tn y.1).map (·.2))
  | [], κ, _ => rfl
  | ((k, x), b) :: zs, κ, hS => by
    obtain ⟨t, m, c, _, hk⟩ := hS ((k, x), b) (List.mem_cons_self ..)
    have hk : k = .agg [.int .u32 t, .str m c] := hk
    subst hk
    have hS' : ∀ y ∈ zs, Shaped y.1 := fun y hy => hS y (List.mem_cons_of_mem _ hy)
    show forceB (Nat.beq t tn) (fun q => br q (keepK tn (zs.map (·.1)) (zs.map (·.2)) κ) (keepK tn (zs.map (·.1)) (zs.map (·.2)) fun es' bs' => κ ((.agg [.int .u32 t, .str m c], x) :: es') (b :: bs'))) = _
    rw [forceB_eq, keepK_eq hS', keepK_eq hS']
    cases hb : Nat.beq t tn with
    | true =>
      rw [List.filter_cons_of_neg (by simp [mtB, hb])]; rfl
    | false =>
      rw [List.filter_cons_of_pos (by simp [mtB, hb])]; rfl
noncomputable def delC (g : Nat) (n : K4) (args : List V) (hs : Heap) (acc : List K4) : R :=
  unK args fun x l => unK l fun y l => nlK l (asMap x (.fail "no map") fun pm => asFn y fun g' caps => br (Nat.beq g' g) (unK caps fun cb l => nlK l (asP cb fun zb zo => allLtK n acc (obR zb hs fun cs _ _ => csL cs fun bx => nthK zo bx fun u => asI u fun kd tn => br (kbeq kd .u32) (mpR pm hs fun es bs clk =>
    br (ltK zb n) (br (ltK pm n) (br (allLt clk bs) (br (sameLn es bs) (br (nodupN bs) (lenM es fun j => br (Nat.ble j 1000000) (shapeK es (valsK es (noTwiceK es (forceN (Nat.succ (Nat.mul 4 j)) fun j => nxs j n fun M => keepK tn es bs fun es' bs' => hputR pm hs (some (.m es' bs' clk)) fun hf => .rv (.tup []) hf M)))) (.fail "a great map"))
      (.fail "stamps")) (.fail "stamps")) (.fail "stamps")) (.fail "places")) (.fail "places")) (.fail "kinds")))) (.fail "another closure"))
noncomputable def pDelF (g : Nat) : Prim := fun args h n => ordK 400 (delC g n args) args h n
section
variable {P : Program} {ρ : Env} {B : Nat}
/-- maps.DeleteFunc IS SO. -/
theorem delF_ok (hρ : OneSym ρ) (hmix : P.follows .mixedOrders = true) {T : FC} (hT : TabOK P ρ B T) {f g : FuncId} (hf : tabG (fnKey f) T = some delE) (hgT : tabG (fnKey g) T = some cloE) : PrimOK P ρ B f (pDelF g) := by
  intro args h n v h1 n1 hx φ w xs gm hr
  refine ordK_ok (hr := hx) gm ?_
  intro hs acc v1 hh1 m1 m sub hc res hOld hm1 gs
  have hg : (delC g n args hs acc).good := good_of hc
  unfold delC at hc hg
  obtain ⟨x, l, rfl, q1⟩ := unK_good hg
  rw [q1] at hc hg
  obtain ⟨y, l, rfl, q2⟩ := unK_good hg
  rw [q2] at hc hg
  obtain ⟨rfl, q3⟩ := nlK_good hg
  rw [q3] at hc hg
  rcases asMap_good hg with ⟨_, q4⟩ | ⟨pm, rfl, q4⟩
  · rw [q4] at hg; exact hg.elim
  rw [q4] at hc hg
  obtain ⟨g', caps, rfl, q5⟩ := asFn_good hg
  rw [q5] at hc hg
  obtain ⟨hgg, q6⟩ := br_good hg
  rw [q6] at hc hg
  obtain rfl := Nat.eq_of_beq_eq_true hgg
  obtain ⟨cb, l, rfl, q7⟩ := unK_good hg
  rw [q7] at hc hg
  obtain ⟨rfl, q8⟩ := nlK_good hg
  rw [q8] at hc hg
  obtain ⟨zb, zo, rfl, q9⟩ := asP_good hg
  rw [q9] at hc hg
  obtain ⟨hacc, q10⟩ := allLtK_good hg
  rw [q10] at hc
  obtain ⟨cs, sup0, prev0, hzb, hc⟩ := obR_rv hc
  obtain ⟨bx, rfl, q12⟩ := csL_good (good_of hc)
  rw [q12] at hc
  obtain ⟨u, hu, hc⟩ := nthK_rv hc
  obtain ⟨kd, tn, rfl, hc⟩ := asI_rv hc
  obtain ⟨hkd, hc⟩ := br_rv hc
  obtain rfl := kbeq_iff.1 hkd
  obtain ⟨es, bs, clk, hpm, hc⟩ := mpR_rv hc
  obtain ⟨l1, hc⟩ := br_rv hc
  obtain ⟨l2, hc⟩ := br_rv hc
  obtain ⟨l3, hc⟩ := br_rv hc
  obtain ⟨l4, hc⟩ := br_rv hc
  obtain ⟨l5, hc⟩ := br_rv hc
  rw [lenM_eq] at hc
  obtain ⟨l6, hc⟩ := br_rv hc
  have l1 := ltK_iff.1 l1
  have l2 := ltK_iff.1 l2
  have l4 := sameLn_iff l4
  have l5 := nodupN_iff l5
  have l6 := ble_iff.1 l6
  obtain ⟨hS, q15⟩ := shapeK_good (good_of hc)
  rw [q15] at hc
  obtain ⟨hV, q16⟩ := valsK_good (good_of hc)
  rw [q16] at hc
  obtain ⟨hK, q17⟩ := noTwiceK_good hS (good_of hc)
  rw [q17, forceN_eq] at hc
  obtain ⟨M, hM, q18⟩ := nxs_good (good_of hc)
  rw [q18] at hc
  clear q1 q2 q3 q4 q5 q6 q7 q8 q9 q10 q12 q15 q16 q17 q18 hg
  have hM : M.toN = n.toN + (4 * es.length + 1) := hM
  obtain ⟨zs, rfl, rfl⟩ : ∃ zs : List ((V × V) × Nat), es = zs.map (·.1) ∧ bs = zs.map (·.2) := ⟨es.zip bs, (List.map_fst_zip (by omega)).symm, (List.map_snd_zip (by omega)).symm⟩
  have hS' : ∀ y ∈ zs, Shaped y.1 := fun y hy => hS _ (List.mem_map.2 ⟨y, hy, rfl⟩)
  rw [keepK_eq hS', hputR_at] at hc
  cases hc
  have hzm : zb ≠ pm := fun e => by subst e; rw [hpm] at hzb; cases hzb
  rw [List.length_map] at hM l6
  have key := del_call (mm := 98) hf hgT hpm hzb hu l5 (fun y hy => allLt_iff l3 y.2 (List.mem_map.2 ⟨y, hy, rfl⟩)) hS' (fun y hy => hV _ (List.mem_map.2 ⟨y, hy, rfl⟩)) ((List.pairwise_map (R := fun a b => keyOf3 a ≠ keyOf3 b) (f := fun y : (V × V) × Nat => y.1)).1 hK) l2 l1 hzm (m1.toN_max) (by omega) l6
  refine (call2_all hρ hmix hT 100).1 f _ hs n _ (R.sat_mono ?_ key) φ w xs gs hr
  rintro r ⟨h', n', rfl, hold, hp', hn'⟩
  refine ⟨.inl ⟨rfl, rfl⟩, fun p hp => ⟨?_, hOld p hp⟩, by omega⟩
  by_cases e : p = pm
  · subst e
    rw [hget_hputS_same, hp']
  · rw [hget_hputS_ne _ _ (Ne.symm e)]
    exact (hold p (hacc p hp) e).symm
end
end Go.Ev
