import Derived.Test.YtppjipfollgbcaaCv
namespace Go.Proofs.Ytppjipfollgbcaa.chooseTurned
def L (D : Nat → U) (n : Nat) : List U := (List.range n).map D
theorem L_succ (D : Nat → U) (n : Nat) : L D (n + 1) = L D n ++ [D n] := by simp [L, List.range_succ]
theorem mayB_L (D : Nat → U) : ∀ n, mayB D n = (L D n).all goodU
  | 0 => rfl
  | n + 1 => by rw [L_succ, List.all_append, ← mayB_L D n]; simp [mayB]
def dd (x : U) : Int := x.size - x.live
theorem ded_L (D : Nat → U) : ∀ n, ded D n = ((L D n).map fun x => max (dd x) 0).sum
  | 0 => rfl
  | n + 1 => by rw [L_succ, List.map_append, List.sum_append, ← ded_L D n]; simp [ded, dd]
def Best (l : List U) (p : Int × Int) : Prop :=
  (p = (0, 0) ∧ ∀ x ∈ l, dd x ≤ 0) ∨ (0 < p.2 ∧ (∃ x ∈ l, x.seg = p.1 ∧ dd x = p.2) ∧ ∀ y ∈ l, dd y ≤ p.2 ∧ (dd y = p.2 → p.1 ≤ y.seg))
theorem vic_best (D : Nat → U) : ∀ n, Best (L D n) (vic D n)
  | 0 => .inl ⟨rfl, fun x hx => by simp [L] at hx⟩
  | n + 1 => by
    have ih := vic_best D n
    rw [L_succ]
    obtain ⟨be, de, hv⟩ : ∃ be de, vic D n = (be, de) := ⟨_, _, rfl⟩
    have e : vic D (n + 1) = if de < dd (D n) ∨ (dd (D n) = de ∧ 0 < dd (D n) ∧ (D n).seg < be) then ((D n).seg, dd (D n)) else (be, de) := by
      show (if _ then _ else _) = _
      rw [hv]; rfl
    rw [hv] at ih
    rw [e]
    have mem : ∀ {P : U → Prop}, (∀ x ∈ L D n, P x) → P (D n) → ∀ x ∈ L D n ++ [D n], P x := fun h1 h2 x hx => by
      rcases List.mem_append.1 hx with h | h
      · exact h1 x h
      · simp at h; subst h; exact h2
    have de0 : 0 ≤ de := by
      rcases ih with ⟨h1, _⟩ | ⟨h1, _⟩
      · simp at h1; omega
      · simp only at h1; omega
    split
    · rename_i hc
      refine .inr ⟨by show 0 < dd (D n); omega, ⟨D n, by simp, rfl, rfl⟩, mem (fun y hy => ?_) ⟨Int.le_refl _, fun _ => Int.le_refl _⟩⟩
      show dd y ≤ dd (D n) ∧ (dd y = dd (D n) → (D n).seg ≤ y.seg)
      rcases ih with ⟨h1, h2⟩ | ⟨h1, h2, h3⟩
      · have := h2 y hy
        simp at h1
        exact ⟨by omega, fun h => by omega⟩
      · have := h3 y hy
        simp only at this h1
        exact ⟨by omega, fun h => by
          rcases hc with hc | hc
          · omega
          · have := this.2 (by omega); omega⟩
    · rename_i hc
      rcases ih with ⟨h1, h2⟩ | ⟨h1, h2, h3⟩
      · simp at h1
        refine .inl ⟨by simp [h1], mem h2 ?_⟩
        omega
      · refine .inr ⟨h1, ?_, mem h3 ⟨by show dd (D n) ≤ de; omega, fun h => by show be ≤ (D n).seg; have h : dd (D n) = de := h; simp only at h1; omega⟩⟩
        obtain ⟨x, hx, h4⟩ := h2
        exact ⟨x, List.mem_append_left _ hx, h4⟩
theorem best_one {l : List U} {p q : Int × Int} (hp : Best l p) (hq : Best l q) : p = q := by
  rcases hp with ⟨rfl, h1⟩ | ⟨h1, ⟨x, hx, h2, h3⟩, h4⟩
  · rcases hq with ⟨rfl, _⟩ | ⟨g1, ⟨x, hx, _, g3⟩, _⟩
    · rfl
    · have := h1 x hx; omega
  · rcases hq with ⟨rfl, g1⟩ | ⟨g1, ⟨y, hy, g2, g3⟩, g4⟩
    · have := g1 x hx; omega
    · have a := h4 y hy
      have c := g4 x hx
      have e2 : p.2 = q.2 := by omega
      have := a.2 (by omega)
      have := c.2 (by omega)
      exact Prod.ext (by omega) e2
theorem best_perm {l l' : List U} (h : l.Perm l') {p : Int × Int} (hp : Best l p) : Best l' p := by
  rcases hp with ⟨h1, h2⟩ | ⟨h1, ⟨x, hx, h2⟩, h3⟩
  · exact .inl ⟨h1, fun x hx => h2 x (h.mem_iff.2 hx)⟩
  · exact .inr ⟨h1, ⟨x, h.mem_iff.1 hx, h2⟩, fun y hy => h3 y (h.mem_iff.2 hy)⟩
theorem all_perm {l l' : List U} (h : l.Perm l') : l.all goodU = l'.all goodU := by
  rw [Bool.eq_iff_iff, List.all_eq_true, List.all_eq_true]
  exact ⟨fun g x hx => g x (h.mem_iff.2 hx), fun g x hx => g x (h.mem_iff.1 hx)⟩
theorem sum_perm {l l' : List Int} (h : l.Perm l') : l.sum = l'.sum := by
  induction h with
  | nil => rfl
  | cons x _ ih => simp [ih]
  | swap x y l => simp; omega
  | trans _ _ ih1 ih2 => rw [ih1, ih2]
/-- THE PLAIN LAW. -/
theorem turned {D E : Nat → U} {n : Nat} (h : (L D n).Perm (L E n)) : mayB D n = mayB E n ∧ vic D n = vic E n ∧ ded D n = ded E n := by
  refine ⟨by rw [mayB_L, mayB_L, all_perm h], best_one (best_perm h (vic_best D n)) (vic_best E n), ?_⟩
  rw [ded_L, ded_L]
  exact sum_perm (h.map _)
/-- A rotation. -/
theorem rot_perm {D E : Nat → U} {n k : Nat} (hk : k ≤ n) (h1 : ∀ i, i < n - k → E i = D (k + i)) (h2 : ∀ i, i < k → E (n - k + i) = D i) : (L D n).Perm (L E n) := by
  have hD : L D n = L D k ++ (List.range (n - k)).map fun i => D (k + i) := by
    have : n = k + (n - k) := by omega
    rw [L, this, List.range_add, List.map_append, List.map_map]
    simp [L, Function.comp_def]
  have hE : L E n = ((List.range (n - k)).map fun i => D (k + i)) ++ L D k := by
    have : n = (n - k) + k := by omega
    rw [L, this, List.range_add, List.map_append, List.map_map, show n - k + k - k = n - k by omega]
    congr 1
    · exact List.map_congr_left fun i hi => h1 i (by simpa using hi)
    · exact List.map_congr_left fun i hi => h2 i (by simpa using hi)
  rw [hD, hE]
  exact List.perm_append_comm
end Go.Proofs.Ytppjipfollgbcaa.chooseTurned
