import Derived.Test.YtppjipfollgbcaaCv
import Derived.Test.YtppjipfollgbcaaCp
import Derived.Deep.AppendLies
import Derived.Deep.RegionHeld3
import Derived.Deep.DrawnRows
namespace Go
theorem step_append_own' {P : Program} (w : World) {ops : Array Oper} {o : Oper} {a : Act} {K : Act → World → Prop} {Q : Exit → Act → World → Prop} {E : Prop} (hgd : o.guard = none) (s x : Operand) (t : TypeId)
    (ho : o.op = .call { callee := .builtin .append, args := #[s, x], argTypes := #[t, t] })
    (base : Nat) (e : TypeId) (i : TypeInfo) (z : Value) (size bytes : Nat) (ht : P.underlying t = some (.slice e)) (hi : P.info? e = some i) (hz : i.zero = some z)
    (hsize : i.size = size) (hby : i.bytes = bytes) (hzs : z.cells.size = size) (hsz : 0 < size)
    (v : Value) (n : Nat) (xs : List Value) (hs : a.eval s = v) (hown : w.ownsRow base e size v n xs)
    (ad : Addr) (m c : Nat) (news : List Value) (hx : a.eval x = .slice (some ad) m c) (hl : news.length = m * size) (hnews : ∀ j u, news[j]? = some u → w.cell? (ad.add j) = some u) (h1 : ∀ u ∈ news, u.oneCell' = true)
    (h63 : n + m ≤ maxLen) (hbytes : (n + m) * bytes ≤ 140737488355328) (hbase : base ≤ w.heap.size)
    (h : ∀ v' w', w'.ownsRow base e size v' (n + m) (xs ++ news) → w.grownBy w' v.ownBlock → (v' = .slice none 0 0 ↔ v = .slice none 0 0 ∧ m = 0) → K (a.put o.dst v') w') :
    if Region.wanted o (yielded ops a.tmps) = true then Oper.wp P o a w K Q else E := by
  have hw : Region.wanted o (yielded ops a.tmps) = true := by simp [Region.wanted, hgd]
  rw [if_pos hw]
  exact wp_append_own w s x t ho base e i z size bytes ht hi hz hsize hby hzs hsz v n xs hs hown ad m c news hx hl hnews h1 h63 hbytes hbase h
end Go
namespace Go.Proofs.Ytppjipfollgbcaa.chooseTurned
open Go.ChangeShapes Go.WideShapes Go.ChangeAt Go.RowKit
attribute [local go_sem ↓] Go.wp_at_zero Go.wp_at_succ
/-- The cells of n elements. -/
def Ce (D : Nat → U) : Nat → List Value
  | 0 => []
  | k + 1 => Ce D k ++ [.int .i64 (D k).seg, .int .i64 (D k).size, .int .i64 (D k).live]
theorem Ce_len (D : Nat → U) : ∀ n, (Ce D n).length = n * 3
  | 0 => rfl
  | n + 1 => by rw [Ce, List.length_append, Ce_len D n]; simp; omega
theorem Ce_one (D : Nat → U) : ∀ n, ∀ u ∈ Ce D n, u.oneCell' = true
  | 0, u, h => by cases h
  | n + 1, u, h => by
    rw [Ce, List.mem_append] at h
    rcases h with h | h
    · exact Ce_one D n u h
    · simp at h; rcases h with rfl | rfl | rfl <;> rfl
theorem Ce_app (D : Nat → U) (a : Nat) : ∀ m, Ce D (a + m) = Ce D a ++ Ce (fun i => D (a + i)) m
  | 0 => by simp [Ce]
  | m + 1 => by rw [← Nat.add_assoc, Ce, Ce_app D a m, Ce, List.append_assoc]
theorem Ce_congr {D E : Nat → U} : ∀ n, (∀ i, i < n → D i = E i) → Ce D n = Ce E n
  | 0, _ => rfl
  | n + 1, h => by rw [Ce, Ce, Ce_congr n (fun i hi => h i (by omega)), h n (by omega)]
theorem Ce_get (D : Nat → U) : ∀ n i, i < n → (Ce D n)[i * 3]? = some (.int .i64 (D i).seg) ∧ (Ce D n)[i * 3 + 1]? = some (.int .i64 (D i).size) ∧ (Ce D n)[i * 3 + 2]? = some (.int .i64 (D i).live)
  | 0, i, h => by omega
  | n + 1, i, h => by
    have hl := Ce_len D n
    rw [Ce]
    by_cases e : i < n
    · have := Ce_get D n i e
      rw [List.getElem?_append_left (by omega), List.getElem?_append_left (by omega), List.getElem?_append_left (by omega)]
      exact this
    · have : i = n := by omega
      subst this
      rw [List.getElem?_append_right (by omega), List.getElem?_append_right (by omega), List.getElem?_append_right (by omega), hl]
      rw [show i * 3 - i * 3 = 0 by omega, show i * 3 + 1 - i * 3 = 1 by omega, show i * 3 + 2 - i * 3 = 2 by omega]
      exact ⟨rfl, rfl, rfl⟩
theorem holds_of_own {w : World} {base g c n : Nat} {D : Nat → U} (h : w.ownsRow base 27 3 (.slice (some ⟨g, 0, none⟩) n c) n (Ce D n)) : HoldsU w g 0 n D := fun i hi => by
  obtain ⟨h1, h2, h3⟩ := Ce_get D n i hi
  rw [Nat.zero_add]
  exact ⟨(h.cellAt (i * 3) (by omega)).trans h1, (h.cellAt (i * 3 + 1) (by omega)).trans h2, (h.cellAt (i * 3 + 2) (by omega)).trans h3⟩
theorem news_of_own {w : World} {base g c n : Nat} {D : Nat → U} (h : w.ownsRow base 27 3 (.slice (some ⟨g, 0, none⟩) n c) n (Ce D n)) {a m : Nat} (ham : a + m ≤ n) (j : Nat) (u : Value) (hu : (Ce (fun i => D (a + i)) m)[j]? = some u) : w.cell? ((⟨g, a * 3, none⟩ : Addr).add j) = some u := by
  have hj : j < m * 3 := by
    have := (List.getElem?_eq_some_iff.1 hu).1
    rwa [Ce_len] at this
  have e : (⟨g, a * 3, none⟩ : Addr).add j = ⟨g, a * 3 + j, none⟩ := by unfold Addr.add; split <;> simp_all
  rw [e, h.cellAt (a * 3 + j) (by omega)]
  obtain ⟨q, rfl⟩ : ∃ q, n = a + m + q := ⟨n - (a + m), by omega⟩
  rw [Ce_app, List.getElem?_append_left (by rw [Ce_len]; omega), Ce_app, List.getElem?_append_right (by rw [Ce_len]; omega), Ce_len, show a * 3 + j - a * 3 = j by omega]
  exact hu
theorem news_of_front {w : World} {base g c n : Nat} {D : Nat → U} (h : w.ownsRow base 27 3 (.slice (some ⟨g, 0, none⟩) n c) n (Ce D n)) {m : Nat} (ham : m ≤ n) (j : Nat) (u : Value) (hu : (Ce D m)[j]? = some u) : w.cell? ((⟨g, 0, none⟩ : Addr).add j) = some u := by
  have := news_of_own h (a := 0) (m := m) (by omega) j u (by rw [Ce_congr m (E := D) fun i _ => by rw [Nat.zero_add]]; exact hu)
  simpa using this
/-- What stands in the turned list. -/
def rotD (D : Nat → U) (k r : Nat) (i : Nat) : U := if i < k - r then D (r + i) else D (i - (k - r))
theorem rot_cells (D : Nat → U) {k r : Nat} (h : r ≤ k) : Ce (fun i => D (r + i)) (k - r) ++ Ce D r = Ce (rotD D k r) k := by
  have e : k = (k - r) + r := by omega
  have h9 := Ce_app (rotD D k r) (k - r) r
  rw [Nat.sub_add_cancel h] at h9
  rw [h9]
  congr 1
  · exact Ce_congr _ fun i hi => by rw [rotD, if_pos hi]
  · exact Ce_congr _ fun i hi => by show D i = rotD D k r (k - r + i); rw [rotD, if_neg (by omega)]; congr 1; omega
theorem turned_rot (D : Nat → U) {k r : Nat} (h : r ≤ k) : mayB D k = mayB (rotD D k r) k ∧ vic D k = vic (rotD D k r) k ∧ ded D k = ded (rotD D k r) k :=
  turned (rot_perm h (fun i hi => by rw [rotD, if_pos hi]) (fun i hi => by rw [rotD, if_neg (by omega)]; congr 1; omega))
def vR (D : Nat → U) (n : Nat) : Int × Bool := if mayB D n = true then ((vic D n).1, decide (0 < (vic D n).2)) else (0, false)
def dR (D : Nat → U) (n : Nat) : Int := if mayB D n = true then ded D n else 0
theorem victim_is {b n cap : Nat} {D : Nat → U} {w : World} {be : Int} {q : Bool} (hv : RowKit.Hid (vR D n = (be, q))) (hH : HoldsU w b 0 n D) (hb : b < w.heap.size) (hn : n ≤ 20) :
    Calls Try.prog 7 #[.slice (some ⟨b, 0, none⟩) n cap] w fun e w' => e = .returned (.tuple #[.int .i64 be, .bool q]) ∧ Below w.heap.size w w' := by
  have hv := hv.out
  unfold vR at hv
  split at hv
  · rename_i hm
    cases hv
    exact victim_ok b 0 n cap D w hH hb hn hm
  · rename_i hm
    cases hv
    exact victim_bad b 0 n cap D w hH hb hn (by simpa using hm)
theorem dead_is {b n cap : Nat} {D : Nat → U} {w : World} {d : Int} (hv : RowKit.Hid (dR D n = d)) (hH : HoldsU w b 0 n D) (hb : b < w.heap.size) (hn : n ≤ 20) :
    Calls Try.prog 8 #[.slice (some ⟨b, 0, none⟩) n cap] w fun e w' => e = .returned (.int .i64 d) ∧ Below w.heap.size w w' := by
  have hv := hv.out
  unfold dR at hv
  split at hv
  · rename_i hm
    subst hv
    exact dead_ok b 0 n cap D w hH hb hn hm
  · rename_i hm
    subst hv
    exact dead_bad b 0 n cap D w hH hb hn (by simpa using hm)
theorem turned_R (D : Nat → U) {k r : Nat} (h : r ≤ k) : vR D k = vR (rotD D k r) k ∧ dR D k = dR (rotD D k r) k := by
  obtain ⟨h1, h2, h3⟩ := turned_rot D h
  unfold vR dR
  rw [h1, h2, h3]
  exact ⟨rfl, rfl⟩
theorem lt_below {B b : Nat} {w w' : World} (h : Below B w w') (hb : b < w.heap.size) : b < w'.heap.size := by have := h.size; omega
def DA (S L : Nat → Int) (i : Nat) : U := ⟨i, S i, L i⟩
theorem info27 : (Try.prog.info? 27).map (fun i => (i.zero, i.size, i.bytes)) = some (some (.agg #[.int .i64 0, .int .i64 0, .int .i64 0]), 3, 24) := by kernel_rfl
set_option maxRecDepth 8000 in
set_option maxHeartbeats 3200000 in
theorem walk (b o n cap : Nat) (S L : Nat → Int) (turn : Int) (w : World) (ht : 0 ≤ turn) (ht2 : turn ≤ 9223372036854775807) (hn : 0 < n) (hnm : n ≤ 9223372036854775807) (hb : b < w.heap.size)
    (hH : ∀ i, i < n → w.cell? ⟨b, o + i * 3 + 1, none⟩ = some (.int .i64 (S i)) ∧ w.cell? ⟨b, o + i * 3 + 2, none⟩ = some (.int .i64 (L i))) :
    Calls Try.prog 3 #[.slice (some ⟨b, o, none⟩) n cap, .int .i64 turn] w fun e w' => e = .returned (.bool true) ∧ Below w.heap.size w w' := by
  obtain ⟨i0, hi, hz0, hz1, hz2⟩ := info_parts info27
  have hn0 : ((n : Int) == 0) = false := by simp; omega
  have ht0 : decide (turn < 0) = false := by simp; omega
  go_enter Try.func3, Try.ntmps3
  go_wp2_with (go_at_call 6; refine (begun _).mono ?_; rintro e w1 ⟨rfl, hB1⟩)
  go_loopw [6, 7] (fun v i wr => ∃ k : Nat, k ≤ n ∧ k ≤ 20 ∧ i = .int .i64 k ∧ wr.ownsRow w.heap.size 27 3 v k (Ce (DA S L) k) ∧ Below w.heap.size w wr) (fun _ i _ => 20 - (intOf i).toNat)
  case atStart => exact ⟨0, Nat.zero_le _, by omega, rfl, World.ownsRow_nil _ _ _ _, hB1⟩
  case round =>
    obtain ⟨k, hk, hk2, rfl, hown, hB⟩ := hrel
    have hsz := hB.size
    by_cases hgo : k < n ∧ k < 20
    · obtain ⟨hlt, h20⟩ := hgo
      obtain ⟨h1, h2⟩ := hH k hlt
      have c1 := (hB.cell (p := ⟨b, o + k * 3 + 1, none⟩) hb).trans h1
      have c2 := (hB.cell (p := ⟨b, o + k * 3 + 2, none⟩) hb).trans h2
      clear h1 h2 hH
      have hb2 : b < wr.heap.size := by omega
      have hne := fun h => (absurd (hown.lt b h).1 (by omega) : False)
      go_wp2_with fail
      go_region_held3 (fun w' => w'.cell? ⟨b, o + k * 3 + 1, none⟩ = some (.int .i64 (S k)) ∧ w'.cell? ⟨b, o + k * 3 + 2, none⟩ = some (.int .i64 (L k)))
        (first | go_keep | (refine ⟨?_, ?_⟩ <;> (rw [hgrow.cell_far _ (by simp; omega) (Ne.symm hne)]; assumption)) | (go_split_ands; refine ⟨?_, ?_⟩ <;> (rw [hgrow.cell_far _ (by simp; omega) (Ne.symm hne)]; assumption)))
        (first | (refine step_append_own' _ (by rfl) _ _ _ (by rfl) w.heap.size 27 i0 _ 3 24 Try.underlying24 hi hz0 hz1 hz2 rfl (by omega) _ k (Ce (DA S L) k) (by rfl) ((hown.alloc _).drew) ⟨_, 0, none⟩ 1 1 [.int .i64 k, .int .i64 (S k), .int .i64 (L k)] (by rfl) (by rfl) (World.news_of_block (cs := #[.int .i64 k, .int .i64 (S k), .int .i64 (L k)]) (t := 27) (fr := (0, 0)) (heap_alloc_new wr _)) (by simp [Value.oneCell']) (by unfold maxLen; omega) (by omega) (by simp; omega) ?_; intro v' w2 hown2 hgrow hnil))
      have hB2 : Below w.heap.size w w2 := ((hB.alloc (by omega) _).drew).grown hgrow (by simp; omega) (fun r hr => (hown.lt r hr).1)
      clear hgrow hown hne c1 c2 hB
      go_wp2
      go_roundw
      case rel => first | exact ⟨k + 1, by omega, by omega, by go_num, hown2, hB2⟩ | ((repeat apply Exists.intro); exact ⟨⟨k + 1, by omega, by omega, by go_num, hown2, hB2⟩, rfl⟩)
      case measure => simp [intOf]; omega
    · clear hH
      have hk0 : 0 < k := by omega
      obtain ⟨g, ca, rfl, hgb, hgl⟩ := hown.form hk0
      obtain ⟨r, hr, hrk⟩ : ∃ r : Nat, turn % (k : Int) = (r : Int) ∧ r < k := by
        have h0 := Int.emod_nonneg turn (b := (k : Int)) (by omega)
        have h1 := Int.emod_lt_of_pos turn (b := (k : Int)) (by omega)
        exact ⟨(turn % (k : Int)).toNat, by omega, by omega⟩
      have hk9 : ¬ ((k : Int) = 0) := by omega
      have hkca : k ≤ ca := by
        rcases hown.2 with ⟨h1, h2⟩ | ⟨g', cap', cur, h1, h2, h3, h4, _⟩
        · cases h1
        · cases h1; exact h4
      have q1 : (0 : Int) ≤ (r : Int) := by omega
      have q2 : (r : Int) ≤ (k : Int) := by omega
      have q3 : (k : Int) ≤ (ca : Int) := by omega
      have q4 : (r : Int) ≤ (ca : Int) := by omega
      have q5 : ¬ (ca = r) := by omega
      by_cases hlt : k < n
      · have h20 : decide ((k : Int) < 20) = false := by simp; omega
        go_wp2_with fail
        go_region_held3 (fun _ => True) (trivial) (first | (refine step_append_lies _ (by rfl) (.const (.slice none 0 0)) (.tmp 55) _ (by rfl) w.heap.size 27 i0 _ 3 24 Try.underlying24 hi hz0 hz1 hz2 rfl (by omega) _ 0 [] (by rfl) (World.ownsRow_nil _ _ _ _) ⟨g, r * 3, none⟩ (k - r) (ca - r) (Ce (fun i => DA S L (r + i)) (k - r)) (by rfl) (Ce_len _ _) (news_of_own (c := ca) (n := k) hown.drew (by omega)) (Ce_one _ _) (by omega) (by unfold maxLen; omega) (by omega) (by simp; omega) wr.heap.size (by simp) ?_; intro g1 c1 w2 hown2 hgrow2 hat2 hlt2) | (refine step_append_own' _ (by rfl) (.tmp 56) (.tmp 59) _ (by rfl) w.heap.size 27 i0 _ 3 24 Try.underlying24 hi hz0 hz1 hz2 rfl (by omega) _ _ _ (by rfl) hown2 ⟨g, 0, none⟩ r ca (Ce (DA S L) r) (by rfl) (Ce_len _ _) (news_of_front (c := ca) (n := k) (hown.drew.kept hgrow2 (.inr (by intro h; cases h))) (by omega)) (Ce_one _ _) (by unfold maxLen; omega) (by omega) (by have := hgrow2.size; simp at this; omega) ?_; intro v3 w3 hown3 hgrow3 hnil3))
        have g1e : g1 = wr.heap.size := by
          rcases hat2 with h | h
          · cases h
          · exact h
        have hA3 := (hown.drew.kept hgrow2 (.inr (by intro h; cases h))).kept hgrow3 (.inr (by intro h; simp [Value.ownBlock] at h; omega))
        have hB3 : Below w.heap.size w w3 := ((hB.drew).grown hgrow2 (by simp; omega) (fun r hr => by cases hr)).grown hgrow3 (by have := hgrow2.size; simp at this; omega) (fun r hr => by simp [Value.ownBlock] at hr; omega)
        rw [List.nil_append, rot_cells _ (by omega), show 0 + (k - r) + r = k by omega] at hown3
        obtain ⟨g3, c3, rfl, hg3b, hg3⟩ := hown3.form hk0
        have HA := holds_of_own hA3
        have HB := holds_of_own hown3
        obtain ⟨t1, t2⟩ := turned_R (DA S L) (k := k) (r := r) (by omega)
        have hgl3 : g < w3.heap.size := (hA3.lt g rfl).2
        clear hown hown2 hown3 hgrow2 hgrow3 hat2 hlt2 hnil3 hA3
        generalize rotD (DA S L) k r = E at HB t1 t2
        generalize DA S L = D at HA t1 t2
        obtain ⟨be, q, hv⟩ : ∃ be q, vR D k = (be, q) := ⟨_, _, rfl⟩
        obtain ⟨d, hd⟩ : ∃ d, dR D k = d := ⟨_, rfl⟩
        have V1 := Lib.hid hv
        have V2 := Lib.hid (t1.symm.trans hv)
        have X1 := Lib.hid hd
        have X2 := Lib.hid (t2.symm.trans hd)
        clear t1 t2 hv hd
        have CA := fun (x : World) (h1 : HoldsU x g 0 k D) (h2 : g < x.heap.size) => victim_is (cap := ca) V1 h1 h2 hk2
        have CB := fun (x : World) (h1 : HoldsU x g3 0 k E) (h2 : g3 < x.heap.size) => victim_is (cap := c3) V2 h1 h2 hk2
        have DDA := fun (x : World) (h1 : HoldsU x g 0 k D) (h2 : g < x.heap.size) => dead_is (cap := ca) X1 h1 h2 hk2
        have DDB := fun (x : World) (h1 : HoldsU x g3 0 k E) (h2 : g3 < x.heap.size) => dead_is (cap := c3) X2 h1 h2 hk2
        go_wp2_with (first
          | (go_at_call 7; with_reducible refine (CA _ HA hgl3).mono ?_; rintro e w4 ⟨rfl, hB4⟩)
          | (go_at_call 7; with_reducible refine (CB _ (HB.below hB4 hg3) (lt_below hB4 hg3)).mono ?_; rintro e w5 ⟨rfl, hB5⟩)
          | (go_at_call 8; with_reducible refine (DDA _ ((HA.below hB4 hgl3).below hB5 (lt_below hB4 hgl3)) (lt_below hB5 (lt_below hB4 hgl3))).mono ?_; rintro e w6 ⟨rfl, hB6⟩)
          | (go_at_call 8; with_reducible refine (DDB _ (((HB.below hB4 hg3).below hB5 (lt_below hB4 hg3)).below hB6 (lt_below hB5 (lt_below hB4 hg3))) (lt_below hB6 (lt_below hB5 (lt_below hB4 hg3)))).mono ?_; rintro e w7 ⟨rfl, hB7⟩))
        go_ret
        have z3 := hB3.size
        have z4 := hB4.size
        have z5 := hB5.size
        have z6 := hB6.size
        exact ⟨by simp, (((hB3.trans (hB4.mono (by omega))).trans (hB5.mono (by omega))).trans (hB6.mono (by omega))).trans (hB7.mono (by omega))⟩
      · have hd : decide ((k : Int) < (n : Int)) = false := by simp; omega
        go_wp2_with fail
        go_region_held3 (fun _ => True) (trivial) (first | (refine step_append_lies _ (by rfl) (.const (.slice none 0 0)) (.tmp 55) _ (by rfl) w.heap.size 27 i0 _ 3 24 Try.underlying24 hi hz0 hz1 hz2 rfl (by omega) _ 0 [] (by rfl) (World.ownsRow_nil _ _ _ _) ⟨g, r * 3, none⟩ (k - r) (ca - r) (Ce (fun i => DA S L (r + i)) (k - r)) (by rfl) (Ce_len _ _) (news_of_own (c := ca) (n := k) hown.drew (by omega)) (Ce_one _ _) (by omega) (by unfold maxLen; omega) (by omega) (by simp; omega) wr.heap.size (by simp) ?_; intro g1 c1 w2 hown2 hgrow2 hat2 hlt2) | (refine step_append_own' _ (by rfl) (.tmp 56) (.tmp 59) _ (by rfl) w.heap.size 27 i0 _ 3 24 Try.underlying24 hi hz0 hz1 hz2 rfl (by omega) _ _ _ (by rfl) hown2 ⟨g, 0, none⟩ r ca (Ce (DA S L) r) (by rfl) (Ce_len _ _) (news_of_front (c := ca) (n := k) (hown.drew.kept hgrow2 (.inr (by intro h; cases h))) (by omega)) (Ce_one _ _) (by unfold maxLen; omega) (by omega) (by have := hgrow2.size; simp at this; omega) ?_; intro v3 w3 hown3 hgrow3 hnil3))
        have g1e : g1 = wr.heap.size := by
          rcases hat2 with h | h
          · cases h
          · exact h
        have hA3 := (hown.drew.kept hgrow2 (.inr (by intro h; cases h))).kept hgrow3 (.inr (by intro h; simp [Value.ownBlock] at h; omega))
        have hB3 : Below w.heap.size w w3 := ((hB.drew).grown hgrow2 (by simp; omega) (fun r hr => by cases hr)).grown hgrow3 (by have := hgrow2.size; simp at this; omega) (fun r hr => by simp [Value.ownBlock] at hr; omega)
        rw [List.nil_append, rot_cells _ (by omega), show 0 + (k - r) + r = k by omega] at hown3
        obtain ⟨g3, c3, rfl, hg3b, hg3⟩ := hown3.form hk0
        have HA := holds_of_own hA3
        have HB := holds_of_own hown3
        obtain ⟨t1, t2⟩ := turned_R (DA S L) (k := k) (r := r) (by omega)
        have hgl3 : g < w3.heap.size := (hA3.lt g rfl).2
        clear hown hown2 hown3 hgrow2 hgrow3 hat2 hlt2 hnil3 hA3
        generalize rotD (DA S L) k r = E at HB t1 t2
        generalize DA S L = D at HA t1 t2
        obtain ⟨be, q, hv⟩ : ∃ be q, vR D k = (be, q) := ⟨_, _, rfl⟩
        obtain ⟨d, hd⟩ : ∃ d, dR D k = d := ⟨_, rfl⟩
        have V1 := Lib.hid hv
        have V2 := Lib.hid (t1.symm.trans hv)
        have X1 := Lib.hid hd
        have X2 := Lib.hid (t2.symm.trans hd)
        clear t1 t2 hv hd
        have CA := fun (x : World) (h1 : HoldsU x g 0 k D) (h2 : g < x.heap.size) => victim_is (cap := ca) V1 h1 h2 hk2
        have CB := fun (x : World) (h1 : HoldsU x g3 0 k E) (h2 : g3 < x.heap.size) => victim_is (cap := c3) V2 h1 h2 hk2
        have DDA := fun (x : World) (h1 : HoldsU x g 0 k D) (h2 : g < x.heap.size) => dead_is (cap := ca) X1 h1 h2 hk2
        have DDB := fun (x : World) (h1 : HoldsU x g3 0 k E) (h2 : g3 < x.heap.size) => dead_is (cap := c3) X2 h1 h2 hk2
        go_wp2_with (first
          | (go_at_call 7; with_reducible refine (CA _ HA hgl3).mono ?_; rintro e w4 ⟨rfl, hB4⟩)
          | (go_at_call 7; with_reducible refine (CB _ (HB.below hB4 hg3) (lt_below hB4 hg3)).mono ?_; rintro e w5 ⟨rfl, hB5⟩)
          | (go_at_call 8; with_reducible refine (DDA _ ((HA.below hB4 hgl3).below hB5 (lt_below hB4 hgl3)) (lt_below hB5 (lt_below hB4 hgl3))).mono ?_; rintro e w6 ⟨rfl, hB6⟩)
          | (go_at_call 8; with_reducible refine (DDB _ (((HB.below hB4 hg3).below hB5 (lt_below hB4 hg3)).below hB6 (lt_below hB5 (lt_below hB4 hg3))) (lt_below hB6 (lt_below hB5 (lt_below hB4 hg3)))).mono ?_; rintro e w7 ⟨rfl, hB7⟩))
        go_ret
        have z3 := hB3.size
        have z4 := hB4.size
        have z5 := hB5.size
        have z6 := hB6.size
        exact ⟨by simp, (((hB3.trans (hB4.mono (by omega))).trans (hB5.mono (by omega))).trans (hB6.mono (by omega))).trans (hB7.mono (by omega))⟩
theorem walk0 (b : Option Addr) (n cap : Nat) (turn : Int) (w : World) (ht : n = 0 ∨ turn < 0) : Calls Try.prog 3 #[.slice b n cap, .int .i64 turn] w fun e w' => e = .returned (.bool true) ∧ Below w.heap.size w w' := by
  rcases ht with rfl | ht
  · go_enter Try.func3, Try.ntmps3
    go_wp2_with (go_at_call 6; refine (begun _).mono ?_; rintro e w1 ⟨rfl, hB1⟩)
    all_goals (go_ret; exact ⟨by simp, hB1⟩)
  · have ht0 : decide (turn < 0) = true := by simp; omega
    go_enter Try.func3, Try.ntmps3
    go_wp2_with (go_at_call 6; refine (begun _).mono ?_; rintro e w1 ⟨rfl, hB1⟩)
    all_goals (go_ret; exact ⟨by simp, hB1⟩)
end Go.Proofs.Ytppjipfollgbcaa.chooseTurned
