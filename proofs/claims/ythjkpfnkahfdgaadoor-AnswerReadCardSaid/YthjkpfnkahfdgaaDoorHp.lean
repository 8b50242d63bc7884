/- What AnswerRead calls, told for one answer. -/
import Derived.Test.YthjkpfnkahfdgaaDoorHo
namespace Go.Proofs.YthjkpfnkahfdgaaDoor.answerRead
set_option linter.unusedVariables false
set_option linter.unusedSimpArgs false
open Go.ChangeShapes Go.WideShapes Go.ChangeAt Go.RowKit Go.Hl Go.Hg Go.An
/-- An age that is told. -/
def ageO (age : Int) : Option Nat := if age < 0 then none else some age.toNat
theorem lines_all (n : Nat) (hn : n < 10 ^ 18) (typ : ByteArray) (ht : typ.size ≤ 100) (len : Nat) (hl : len < 10 ^ 18) (age : Int) (ha : age < 10 ^ 18) (hit : Bool) (w : World) :
    Calls Tryd.prog 16 #[.int .i64 (n : Int), .string typ, .int .i64 (len : Int), .int .i64 age, .bool hit] w (LinesAre n typ len (ageO age) hit w) := by
  unfold ageO
  by_cases h0 : 0 < typ.size
  · by_cases h : age < 0
    · rw [if_pos h]
      cases hit
      · exact lines100 n hn typ h0 ht len hl age h w
      · exact lines101 n hn typ h0 ht len hl age h w
    · rw [if_neg h]
      obtain ⟨a, rfl⟩ := Int.eq_ofNat_of_zero_le (show 0 ≤ age by omega)
      cases hit
      · exact lines110 n hn typ h0 ht len hl a (by omega) w
      · exact lines111 n hn typ h0 ht len hl a (by omega) w
  · obtain rfl := typ_eq (show typ.size = 0 by omega)
    by_cases h : age < 0
    · rw [if_pos h]
      cases hit
      · exact lines000 n hn len hl age h w
      · exact lines001 n hn len hl age h w
    · rw [if_neg h]
      obtain ⟨a, rfl⟩ := Int.eq_ofNat_of_zero_le (show 0 ≤ age by omega)
      cases hit
      · exact lines010 n hn len hl a (by omega) w
      · exact lines011 n hn len hl a (by omega) w
theorem fs_short {typ : List UInt8} (ht : typ.length ≤ 100) {len : Nat} {age : Option Nat} {hit : Bool} : ∀ p ∈ fieldsL typ len age hit, p.1.length ≤ 200 ∧ p.2.length ≤ 200 := by
  intro p hp
  have l2 := (decK_len 18 len).2
  unfold fieldsL at hp
  simp only [List.mem_append, List.mem_cons] at hp
  rcases hp with (hp | (rfl | hp)) | hp
  · by_cases h : typ = []
    · rw [if_pos h] at hp; cases hp
    · rw [if_neg h, List.mem_singleton] at hp; subst hp; exact ⟨by show bType.length ≤ 200; decide, by show typ.length ≤ 200; omega⟩
  · exact ⟨by show bLen.length ≤ 200; decide, by show (decK 18 len).length ≤ 200; omega⟩
  · cases age with
    | none => cases hp
    | some a =>
      have l3 := (decK_len 18 a).2
      have hp : p ∈ [(bAge, decK 18 a)] := hp
      rw [List.mem_singleton] at hp; subst hp; exact ⟨by show bAge.length ≤ 200; decide, by show (decK 18 a).length ≤ 200; omega⟩
  · rcases hp with rfl | hp
    · refine ⟨by show bCache.length ≤ 200; decide, ?_⟩
      cases hit <;> decide
    · cases hp
def cnt (typ : List UInt8) (age : Option Nat) : Nat := (if typ = [] then 0 else 1) + 2 + (match age with | some _ => 1 | none => 0)
theorem fs_cnt (typ : List UInt8) (len : Nat) (age : Option Nat) (hit : Bool) : (fieldsL typ len age hit).length = cnt typ age := by
  unfold fieldsL cnt
  by_cases h : typ = [] <;> cases age <;> simp [h]
theorem cnt_le (typ : List UInt8) (age : Option Nat) : 0 < cnt typ age ∧ cnt typ age ≤ 4 := by
  unfold cnt
  by_cases h : typ = [] <;> cases age <;> simp [h]
def clen : ByteArray := ⟨#[99, 111, 110, 116, 101, 110, 116, 45, 108, 101, 110, 103, 116, 104]⟩
def Nf (fs : List (List UInt8 × List UInt8)) (i : Nat) : ByteArray := ⟨((fs.getD i ([], [])).1).toArray⟩
def Vf (fs : List (List UInt8 × List UInt8)) (i : Nat) : ByteArray := ⟨((fs.getD i ([], [])).2).toArray⟩
theorem low_len : low ⟨bLen.toArray⟩ = low clen := by decide +kernel
theorem low_type : ¬ (low ⟨bType.toArray⟩ = low clen) := by decide +kernel
theorem low_age : ¬ (low ⟨bAge.toArray⟩ = low clen) := by decide +kernel
theorem low_cache : ¬ (low ⟨bCache.toArray⟩ = low clen) := by decide +kernel
theorem gv_len (typ : List UInt8) (len : Nat) (age : Option Nat) (hit : Bool) : GV (Nf (fieldsL typ len age hit)) (Vf (fieldsL typ len age hit)) clen (cnt typ age) = [.string ⟨(decK 18 len).toArray⟩] := by
  by_cases h : typ = []
  · cases age with
    | none =>
      have e : fieldsL typ len none hit = [(bLen, decK 18 len), (bCache, if hit then bHit else bMiss)] := by simp [fieldsL, h]
      have ec : cnt typ none = 2 := by simp [cnt, h]
      rw [e, ec]
      exact (GV_miss (N := Nf [(bLen, decK 18 len), (bCache, if hit then bHit else bMiss)]) (V := Vf [(bLen, decK 18 len), (bCache, if hit then bHit else bMiss)]) (nm := clen) (k := 1) low_cache).trans ((GV_hit (N := Nf [(bLen, decK 18 len), (bCache, if hit then bHit else bMiss)]) (V := Vf [(bLen, decK 18 len), (bCache, if hit then bHit else bMiss)]) (nm := clen) (k := 0) low_len).trans ((congrArg (· ++ _) (rfl)).trans rfl))
    | some a =>
      have e : fieldsL typ len (some a) hit = [(bLen, decK 18 len), (bAge, decK 18 a), (bCache, if hit then bHit else bMiss)] := by simp [fieldsL, h]
      have ec : cnt typ (some a) = 3 := by simp [cnt, h]
      rw [e, ec]
      exact (GV_miss (N := Nf [(bLen, decK 18 len), (bAge, decK 18 a), (bCache, if hit then bHit else bMiss)]) (V := Vf [(bLen, decK 18 len), (bAge, decK 18 a), (bCache, if hit then bHit else bMiss)]) (nm := clen) (k := 2) low_cache).trans ((GV_miss (N := Nf [(bLen, decK 18 len), (bAge, decK 18 a), (bCache, if hit then bHit else bMiss)]) (V := Vf [(bLen, decK 18 len), (bAge, decK 18 a), (bCache, if hit then bHit else bMiss)]) (nm := clen) (k := 1) low_age).trans ((GV_hit (N := Nf [(bLen, decK 18 len), (bAge, decK 18 a), (bCache, if hit then bHit else bMiss)]) (V := Vf [(bLen, decK 18 len), (bAge, decK 18 a), (bCache, if hit then bHit else bMiss)]) (nm := clen) (k := 0) low_len).trans ((congrArg (· ++ _) (rfl)).trans rfl)))
  · cases age with
    | none =>
      have e : fieldsL typ len none hit = [(bType, typ), (bLen, decK 18 len), (bCache, if hit then bHit else bMiss)] := by simp [fieldsL, h]
      have ec : cnt typ none = 3 := by simp [cnt, h]
      rw [e, ec]
      exact (GV_miss (N := Nf [(bType, typ), (bLen, decK 18 len), (bCache, if hit then bHit else bMiss)]) (V := Vf [(bType, typ), (bLen, decK 18 len), (bCache, if hit then bHit else bMiss)]) (nm := clen) (k := 2) low_cache).trans ((GV_hit (N := Nf [(bType, typ), (bLen, decK 18 len), (bCache, if hit then bHit else bMiss)]) (V := Vf [(bType, typ), (bLen, decK 18 len), (bCache, if hit then bHit else bMiss)]) (nm := clen) (k := 1) low_len).trans ((congrArg (· ++ _) ((GV_miss (N := Nf [(bType, typ), (bLen, decK 18 len), (bCache, if hit then bHit else bMiss)]) (V := Vf [(bType, typ), (bLen, decK 18 len), (bCache, if hit then bHit else bMiss)]) (nm := clen) (k := 0) low_type).trans (rfl))).trans rfl))
    | some a =>
      have e : fieldsL typ len (some a) hit = [(bType, typ), (bLen, decK 18 len), (bAge, decK 18 a), (bCache, if hit then bHit else bMiss)] := by simp [fieldsL, h]
      have ec : cnt typ (some a) = 4 := by simp [cnt, h]
      rw [e, ec]
      exact (GV_miss (N := Nf [(bType, typ), (bLen, decK 18 len), (bAge, decK 18 a), (bCache, if hit then bHit else bMiss)]) (V := Vf [(bType, typ), (bLen, decK 18 len), (bAge, decK 18 a), (bCache, if hit then bHit else bMiss)]) (nm := clen) (k := 3) low_cache).trans ((GV_miss (N := Nf [(bType, typ), (bLen, decK 18 len), (bAge, decK 18 a), (bCache, if hit then bHit else bMiss)]) (V := Vf [(bType, typ), (bLen, decK 18 len), (bAge, decK 18 a), (bCache, if hit then bHit else bMiss)]) (nm := clen) (k := 2) low_age).trans ((GV_hit (N := Nf [(bType, typ), (bLen, decK 18 len), (bAge, decK 18 a), (bCache, if hit then bHit else bMiss)]) (V := Vf [(bType, typ), (bLen, decK 18 len), (bAge, decK 18 a), (bCache, if hit then bHit else bMiss)]) (nm := clen) (k := 1) low_len).trans ((congrArg (· ++ _) ((GV_miss (N := Nf [(bType, typ), (bLen, decK 18 len), (bAge, decK 18 a), (bCache, if hit then bHit else bMiss)]) (V := Vf [(bType, typ), (bLen, decK 18 len), (bAge, decK 18 a), (bCache, if hit then bHit else bMiss)]) (nm := clen) (k := 0) low_type).trans (rfl))).trans rfl)))
theorem fcells_at : ∀ (fs : List (List UInt8 × List UInt8)) (i : Nat), i < fs.length → (fcells fs)[i * 2]? = some (.string (Nf fs i)) ∧ (fcells fs)[i * 2 + 1]? = some (.string (Vf fs i))
  | [], i, h => absurd h (Nat.not_lt_zero _)
  | f :: l, 0, _ => ⟨rfl, rfl⟩
  | f :: l, i + 1, h => by
    have := fcells_at l i (by simpa using h)
    rw [show (i + 1) * 2 = i * 2 + 1 + 1 by omega]
    exact this
/-- The length, as the head tells it. -/
theorem values_ {typ : List UInt8} (ht : typ.length ≤ 100) (len : Nat) (age : Option Nat) (hit : Bool) {B0 : Nat} {y : World} {vf : Value} (hown : y.ownsRow B0 44 2 vf (cnt typ age) (fcells (fieldsL typ len age hit))) :
    (∃ g c : Nat, vf = .slice (some ⟨g, 0, none⟩) (cnt typ age) c) ∧
    Calls Tryd.prog 10 #[vf, .string clen] y fun e w' => ∃ g c : Nat, e = .returned (.slice (some ⟨g, 0, none⟩) 1 c) ∧ w'.cell? ⟨g, 0, none⟩ = some (.string ⟨(decK 18 len).toArray⟩) ∧ Below y.heap.size y w' := by
  have hc := cnt_le typ age
  have hl := fs_cnt typ len age hit
  have hs := fs_short ht (len := len) (age := age) (hit := hit)
  have hgv := gv_len typ len age hit
  rcases hown.2 with ⟨_, h0⟩ | ⟨g, cap, cur, hv, hb, hg, hn, hm, hcs, htk⟩
  · omega
  refine ⟨⟨g, cap, hv⟩, ?_⟩
  have hgl : g < y.heap.size := (Array.getElem?_eq_some_iff.1 hg).1
  have at_ : ∀ j u, (fcells (fieldsL typ len age hit))[j]? = some u → y.cell? ⟨g, j, none⟩ = some u := fun j u hu => by
    rw [cell_of_row y g j cur 44 _ hg]
    rw [← htk, List.getElem?_take] at hu
    split at hu
    · simpa using hu
    · cases hu
  have HF : HoldsF y g 0 (cnt typ age) (Nf (fieldsL typ len age hit)) (Vf (fieldsL typ len age hit)) := fun i hi => by
    obtain ⟨p, q⟩ := fcells_at (fieldsL typ len age hit) i (by omega)
    rw [Nat.zero_add]
    exact ⟨at_ _ _ p, at_ _ _ q⟩
  subst hv
  refine (ref_Values g 0 (cnt typ age) cap _ _ clen y HF hgl (by omega) ?_ (by decide)).mono ?_
  · intro i hi
    unfold Nf
    show (List.toArray _).size ≤ 1000
    rw [List.size_toArray, List.getD_eq_getElem?_getD, List.getElem?_eq_getElem (by omega)]
    exact Nat.le_trans (hs _ (List.getElem_mem (by omega))).1 (by decide)
  · rintro e w' ⟨v, rfl, ho, hB⟩
    rw [hgv] at ho
    rcases ho.2 with ⟨_, h0⟩ | ⟨g2, cap2, cur2, rfl, _, hg2, _, _, _, htk2⟩
    · cases h0
    refine ⟨g2, cap2, rfl, ?_, hB⟩
    rw [cell_of_row w' g2 0 cur2 9 _ hg2]
    have h1 : (cur2.toList.take (1 * 1))[0]? = cur2.toList[0]? := by rw [List.getElem?_take, if_pos (by decide)]
    have h2 : cur2.toList.take (1 * 1) = [.string ⟨(decK 18 len).toArray⟩] := htk2
    rw [h2] at h1
    simpa using h1.symm
/-- The head's bytes, the rest behind them. -/
theorem app_x (w w2 : World) (hB : Below w.heap.size w w2) (X : ByteArray) (hX : X.size ≤ 2000) (b : Option Addr) (k c : Nat) (hk : k ≤ 100) (ys : List UInt8) (hys : ys.length = k) (hY : ∀ a, b = some a → ∀ j, j < k → w.cell? (a.add j) = some (.int .u8 ((at0 ys j).toNat : Int))) (hbk : b = none → k = 0) :
    ∃ g' cap' w', (Builtin.append_ #[22, 22] 22 #[.slice (some ⟨w2.heap.size, 0, none⟩) X.size (grownCap w2 X.size 0 5), .slice b k c]).run Tryd.prog (Lib.bytesWorld w2 5 X) = .ok (.slice (some ⟨g', 0, none⟩) (X.size + k) cap') w' ∧ HoldsB w' g' 0 (X.data.toList ++ ys) ∧ Below w.heap.size (Lib.bytesWorld w2 5 X) w' ∧ w.heap.size ≤ g' := by
  obtain ⟨r1, r2, r3⟩ := bw_row w2 X
  have hsz := hB.size
  refine run_appB _ w.heap.size w2.heap.size X.size _ _ r1 r2 (grownCap_ge _ _ _ _) hsz X.data.toList (sz_list X) r3 b k c ys hys (fun a ha j hj => ?_) hbk (by omega)
  have q2 := hY a ha j hj
  have q1 := World.block_lt_of_cell? _ _ q2
  rw [Lib.bytesWorld_old w2 5 X _ (by omega), hB.cell q1]
  exact q2
/-- The answer, read. -/
theorem read_x {n : Nat} (h1 : 100 ≤ n) (h2 : n ≤ 999) {fs : List (List UInt8 × List UInt8)} (hf : ∀ p ∈ fs, FieldOK p) (hfs : ∀ p ∈ fs, p.1.length ≤ 200 ∧ p.2.length ≤ 200) (hn0 : 0 < fs.length) (hn : fs.length ≤ 20) (hl : (join (line0 n) (fs.map fline)).length ≤ 1990)
    {X : ByteArray} (hX : X.data.toList = headL n fs) {ys : List UInt8} {k : Nat} (hys : ys.length = k) (hk : k ≤ 20) {g c : Nat} {mx : Int} {y : World} (hm : y.cell? ⟨0, 0, none⟩ = some (.int .i64 mx)) (h0 : 0 < y.heap.size) (hH : HoldsB y g 0 (X.data.toList ++ ys)) :
    Calls Tryd.prog 8 #[.slice (some ⟨g, 0, none⟩) (X.size + k) c] y fun e w' => ∃ vf, e = .returned (.tuple #[.int .i64 (n : Int), vf, .int .i64 (X.size : Int), .bool true]) ∧ w'.ownsRow (y.heap.size + 1) 44 2 vf fs.length (fcells fs) ∧ Below y.heap.size y w' := by
  rw [hX] at hH
  have := aread_ n h1 h2 fs hf hfs hn0 hn hl ys (by omega) g 0 c mx y hm h0 hH
  have e : (headL n fs).length = X.size := by rw [← hX]; exact sz_list X
  rw [List.length_append, e, hys] at this
  exact this
theorem holds_bw (X : ByteArray) (y : World) : HoldsB (Lib.bytesWorld y 5 X) y.heap.size 0 X.data.toList := fun j hj => by
  have e : X.data.toList.length = X.size := Array.length_toList
  rw [Nat.zero_add, Lib.bytesWorld_cell y 5 X j (by omega)]
  unfold at0
  rw [List.getD_eq_getElem?_getD]
def errF : List (List UInt8 × List UInt8) := fieldsL [] 0 none false ++ [(bConn, bClose)]
theorem errF_ok : ∀ p ∈ errF, FieldOK p := fun p hp => by
  rcases List.mem_append.1 hp with h | h
  · exact fieldsL_ok (by decide +kernel) (by decide) (fun a h => by cases h) p h
  · rw [List.mem_singleton] at h
    subst h
    exact ⟨name_ok _ (by simp), by decide +kernel⟩
theorem errF_sz : ∀ p ∈ errF, p.1.length ≤ 200 ∧ p.2.length ≤ 200 := fun p hp => by
  rcases List.mem_append.1 hp with h | h
  · exact fs_short (by decide) p h
  · rw [List.mem_singleton] at h
    subst h
    exact ⟨by show bConn.length ≤ 200; decide, by show bClose.length ≤ 200; decide⟩
theorem err_len (n : Nat) : (join (line0 n) (errF.map fline)).length ≤ 400 := by
  have l1 := (decK_len 18 n).2
  have l2 := (decK_len 18 0).2
  have l3 := reasonL_len n
  simp [errF, fieldsL, fline, join, line0, bHttp, bLen, bCache, bMiss, bConn, bClose]
  omega
/-- An error's text, and what is read of it. -/
theorem error_x (n : Nat) (h1 : 100 ≤ n) (h2 : n ≤ 999) : ∃ E : ByteArray, E.size ≤ 500 ∧ (∀ y : World, Calls Tryd.prog 12 #[.int .i64 (n : Int)] y fun e w' => e = .returned (.string E) ∧ Below y.heap.size y w') ∧
    ∀ (mx : Int) (y : World), 0 < y.heap.size → y.cell? ⟨0, 0, none⟩ = some (.int .i64 mx) → Calls Tryd.prog 8 #[.slice (some ⟨y.heap.size, 0, none⟩) E.size (grownCap y E.size 0 5)] (Lib.bytesWorld y 5 E) fun e w' => ∃ vf, e = .returned (.tuple #[.int .i64 (n : Int), vf, .int .i64 (E.size : Int), .bool true]) ∧ Below (y.heap.size + 1) (Lib.bytesWorld y 5 E) w' := by
  have e : (headL n errF).length = (⟨(headL n errF).toArray⟩ : ByteArray).size := (by show _ = (List.toArray _).size; rw [List.size_toArray])
  refine ⟨⟨(headL n errF).toArray⟩, ?_, fun y => ?_, fun mx y h0 hm => ?_⟩
  · rw [← e]
    have := err_len n
    have l : ([13, 10, 13, 10] : List UInt8).length = 4 := rfl
    unfold headL; rw [List.length_append]; omega
  · refine (error_ n (lines000 n (by omega) 0 (by decide) (-1) (by decide) y)).mono ?_
    rintro e w' ⟨X, hX, rfl, hB⟩
    exact ⟨by rw [ba_of hX]; rfl, hB⟩
  · have hc : (Lib.bytesWorld y 5 ⟨(headL n errF).toArray⟩).cell? ⟨0, 0, none⟩ = some (.int .i64 mx) := (Lib.bytesWorld_old y 5 _ _ h0).trans hm
    have := read_x h1 h2 errF_ok errF_sz (by decide) (by decide) (by have := err_len n; omega) (X := ⟨(headL n errF).toArray⟩) rfl (ys := []) (k := 0) rfl (by decide) (c := grownCap y (⟨(headL n errF).toArray⟩ : ByteArray).size 0 5) hc (by rw [Lib.bytesWorld_size]; omega) (by rw [List.append_nil]; exact holds_bw _ y)
    refine this.mono ?_
    rintro e w' ⟨vf, he, _, hB⟩
    rw [Lib.bytesWorld_size] at hB
    exact ⟨vf, he, hB⟩
theorem str_ne {t : ByteArray} (h : 0 < t.size) : t.toList.isEmpty = false := by
  rw [ByteArray.toList_eq]
  cases hq : t.data.toList with
  | nil => exact absurd hq (typ_ne h)
  | cons a l => rfl
end Go.Proofs.YthjkpfnkahfdgaaDoor.answerRead
