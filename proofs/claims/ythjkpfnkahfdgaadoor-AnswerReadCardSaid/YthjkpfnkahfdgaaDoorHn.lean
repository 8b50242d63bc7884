/- A head read, walked. -/
import Derived.Test.YthjkpfnkahfdgaaDoorHm
import Derived.Test.YthjkpfnkahfdgaaDoorHl
namespace Go.Proofs.YthjkpfnkahfdgaaDoor.answerRead
set_option linter.unusedVariables false
set_option linter.unusedSimpArgs false
open Go.ChangeShapes Go.WideShapes Go.ChangeAt Go.RowKit Go.Hl Go.Hg Go.An
def crlf : ByteArray := ⟨#[13, 10]⟩
def pieces (s : ByteArray) : List ByteArray := Lib.splitB crlf 0 (Lib.countB s crlf) s
theorem pieces_len (s : ByteArray) : (pieces s).length = Lib.countB s crlf + 1 := Lib.splitB_all crlf (by decide) 0 _ s rfl
theorem pieces_data (s : ByteArray) : (pieces s).map (·.data.toList) = Lib.split s.data.toList [13, 10] := Lib.splitB_data crlf 0 _ s
def fcells : List (List UInt8 × List UInt8) → List Value
  | [] => []
  | f :: l => .string ⟨f.1.toArray⟩ :: .string ⟨f.2.toArray⟩ :: fcells l
theorem fcells_len : ∀ l, (fcells l).length = l.length * 2
  | [] => rfl
  | f :: l => by show (fcells l).length + 1 + 1 = (l.length + 1) * 2; rw [fcells_len l]; omega
theorem fcells_app : ∀ (l m : List (List UInt8 × List UInt8)), fcells (l ++ m) = fcells l ++ fcells m
  | [], m => rfl
  | f :: l, m => by show _ :: _ :: fcells (l ++ m) = _; rw [fcells_app l m]; rfl
theorem info44 : (Tryd.prog.info? 44).map (fun i => (i.zero, i.size, i.bytes)) = some (some (.agg #[.string ByteArray.empty, .string ByteArray.empty]), 2, 32) := by kernel_rfl
/-- The pieces of a head. -/
theorem head_pieces {st : Nat} (hst : st < 10 ^ 19) {fs : List (List UInt8 × List UInt8)} (hf : ∀ p ∈ fs, FieldOK p) {A : ByteArray} (hA : A.data.toList = join (line0 st) (fs.map fline)) :
    ∃ (P0 : ByteArray) (PR : List ByteArray), pieces A = P0 :: PR ∧ P0.data.toList = line0 st ∧ PR.map (·.data.toList) = fs.map fline ∧ PR.length = fs.length := by
  have h := pieces_data A
  rw [hA, (head_cut st hst fs hf []).2] at h
  cases hp : pieces A with
  | nil => rw [hp] at h; cases h
  | cons P0 PR =>
    rw [hp] at h
    simp only [List.map_cons, List.cons.injEq] at h
    exact ⟨P0, PR, rfl, h.1, h.2, by have := congrArg List.length h.2; simpa using this⟩
theorem results_tmp4 {fn : Func} {t u v x : Tmp} (h : fn.results = #[.tmp t, .tmp u, .tmp v, .tmp x]) (tmps : Array Value) (P : Program) (w : World) :
    (results fn tmps).run P w = .ok (.tuple #[tmps.getD t undef, tmps.getD u undef, tmps.getD v undef, tmps.getD x undef]) w := by
  simp [results, h]
set_option maxRecDepth 100000 in
set_option maxHeartbeats 1600000 in
theorem aread_ (st : Nat) (h1 : 100 ≤ st) (h2 : st ≤ 999) (fs : List (List UInt8 × List UInt8)) (hf : ∀ p ∈ fs, FieldOK p) (hfs : ∀ p ∈ fs, p.1.length ≤ 200 ∧ p.2.length ≤ 200) (hn0 : 0 < fs.length) (hn : fs.length ≤ 20) (hl : (join (line0 st) (fs.map fline)).length ≤ 1990) (rest : List UInt8) (hr : rest.length ≤ 100)
    (bb o cap : Nat) (mx : Int) (w : World) (hm : w.cell? ⟨0, 0, none⟩ = some (.int .i64 mx)) (h0 : 0 < w.heap.size) (hH : HoldsB w bb o (headL st fs ++ rest)) :
    Calls Tryd.prog 8 #[.slice (some ⟨bb, o, none⟩) (headL st fs ++ rest).length cap] w fun e w' => ∃ vf, e = .returned (.tuple #[.int .i64 (st : Int), vf, .int .i64 (((headL st fs).length : Nat) : Int), .bool true]) ∧ w'.ownsRow (w.heap.size + 1) 44 2 vf fs.length (fcells fs) ∧ Below w.heap.size w w' := by
  obtain ⟨i0, hi, hz0, hz1, hz2⟩ := info_parts info44
  obtain ⟨A, hA⟩ : ∃ A : ByteArray, A.data.toList = join (line0 st) (fs.map fline) := ⟨⟨(join (line0 st) (fs.map fline)).toArray⟩, rfl⟩
  obtain ⟨S, hS⟩ : ∃ S : ByteArray, S = ⟨(headL st fs ++ rest).toArray⟩ := ⟨_, rfl⟩
  obtain ⟨R, hR⟩ : ∃ R : ByteArray, R = ⟨rest.toArray⟩ := ⟨_, rfl⟩
  have hAs : A.size = (join (line0 st) (fs.map fline)).length := size_of hA
  have hhl : (headL st fs).length = A.size + 4 := by rw [hAs]; unfold headL; rw [List.length_append]; rfl
  have hSs : S.size ≤ 3000 := by rw [hS]; show (headL st fs ++ rest).toArray.size ≤ _; rw [List.size_toArray, List.length_append, hhl]; omega
  have HC := hH.all cap
  rw [← hS] at HC
  obtain ⟨P0, PR, hp, hp0, hpr, hpl⟩ := head_pieces (by omega) hf hA
  have LC : ∀ y : World, y.cell? ⟨0, 0, none⟩ = some (.int .i64 mx) → Calls Tryd.prog 17 #[.string S, .string ⟨#[13, 10, 13, 10]⟩] y fun e w' => e = .returned (.tuple #[.string A, .string R, .bool true]) ∧ ∃ n, w' = y.drewN n := fun y hy => by
    have := lib_Cut S ⟨#[13, 10, 13, 10]⟩ mx y (by omega) hy
    rw [show S.data.toList = headL st fs ++ rest by rw [hS], show (⟨#[13, 10, 13, 10]⟩ : ByteArray).data.toList = [13, 10, 13, 10] from rfl, (head_cut st (by omega) fs hf rest).1] at this
    rw [hR, ba_of hA]
    exact this
  have LS : ∀ y : World, y.cell? ⟨0, 0, none⟩ = some (.int .i64 mx) → Calls Tryd.prog 18 #[.string A, .string ⟨#[13, 10]⟩] y fun e w' => e = .returned (.slice (some ⟨y.heap.size, 0, none⟩) (fs.length + 1) (fs.length + 1)) ∧ w' = y.alloc (.cells ((P0 :: PR).map Value.string).toArray 9) := fun y hy => by
    have := lib_Split A ⟨#[13, 10]⟩ mx y (by omega) hy (by decide)
    have e : Lib.countB A crlf + 1 = fs.length + 1 := by rw [← pieces_len, hp, List.length_cons, hpl]
    rw [show Lib.countB A ⟨#[13, 10]⟩ + 1 = fs.length + 1 from e] at this
    rw [← hp]
    exact this
  have CF := fun y => first_ st h1 h2 P0 hp0 y
  obtain ⟨az, haz⟩ : ∃ k, A.size = k := ⟨_, rfl⟩
  have ha2 : az ≤ 1990 := by omega
  generalize (headL st fs ++ rest).length = bl at HC
  have LC1 := LC w hm
  rw [hhl, haz]
  clear hH hS hR hSs hhl hp hp0 hl hAs
  obtain ⟨fl, hfl⟩ : ∃ k, fs.length = k := ⟨_, rfl⟩
  rw [hfl] at hn hn0 hpl LS
  rw [hfl]
  have d1 : ¬ (2000 < (az : Int) + 4) := by omega
  have d2 : ¬ (21 < (fl : Int) + 1) := by omega
  have d3 : (1 : Int) ≤ (fl : Int) + 1 := by omega
  go_enter Tryd.func8, Tryd.ntmps8
  go_wp2_with (first | (go_at_call 17; refine LC1.mono ?_; rintro e w2 ⟨rfl, n2, rfl⟩) | fail)
  have LS1 := LS (w.drewN n2) hm
  refine LS1.mono ?_
  rintro e w3 ⟨rfl, rfl⟩
  have hblk := heap_alloc_new (w.drewN n2) (Obj.cells (List.map Value.string (P0 :: PR)).toArray 9)
  have HB3 : Below w.heap.size w ((w.drewN n2).alloc (Obj.cells (List.map Value.string (P0 :: PR)).toArray 9)) := (drewB (Below.refl _ w) n2).alloc (Nat.le_refl _) _
  have hs3 : ((w.drewN n2).alloc (Obj.cells (List.map Value.string (P0 :: PR)).toArray 9)).heap.size = w.heap.size + 1 := by simp
  have hblk2 : ((w.drewN n2).alloc (Obj.cells (List.map Value.string (P0 :: PR)).toArray 9)).heap[w.heap.size]? = some (Obj.cells (List.map Value.string (P0 :: PR)).toArray 9) := hblk
  clear LC LC1 LS LS1 HC hblk
  rw [show (w.drewN n2).heap.size = w.heap.size from rfl]
  generalize (w.drewN n2).alloc (Obj.cells (List.map Value.string (P0 :: PR)).toArray 9) = w3 at *
  have c0 : w3.cell? ⟨w.heap.size, 0, none⟩ = some (.string P0) := by rw [blk_cell hblk2]; rfl
  have HK := Lib.hid hblk2
  have HBB3 := Lib.hid HB3
  clear hblk2 HB3
  go_wp2_with (first | (go_at_call 19; refine (CF _).mono ?_; rintro e w4 ⟨rfl, hB4⟩) | fail)
  have B4 := hB4
  rw [hs3] at B4
  have H0 : Hid (w4.ownsRow (w.heap.size + 1) 44 2 (.slice none 0 0) 0 (fcells (fs.take 0)) ∧ Below (w.heap.size + 1) w3 w4) := ⟨World.ownsRow_nil _ _ _ _, B4⟩
  clear c0 CF hB4 B4 d1 d2 d3
  go_loopw [12, 54] (fun vf i wr => ∃ k : Nat, k ≤ fl ∧ i = .int .i64 k ∧ Hid (wr.ownsRow (w.heap.size + 1) 44 2 vf k (fcells (fs.take k)) ∧ Below (w.heap.size + 1) w3 wr)) (fun _ i _ => fl - (intOf i).toNat)
  case atStart => exact ⟨0, Nat.zero_le _, rfl, H0⟩
  case round =>
    obtain ⟨k, hk, rfl, hR⟩ := hrel
    by_cases hlt : k < fl
    · have hgo : (k : Int) < (fl : Int) := by omega
      have hkf : k < fs.length := by omega
      have hkp : k < PR.length := by omega
      obtain ⟨q, hq⟩ : ∃ q, fs[k] = q := ⟨_, rfl⟩
      obtain ⟨P, hP⟩ : ∃ P, PR[k] = P := ⟨_, rfl⟩
      have hPd : P.data.toList = fline q := by
        have h1 : (PR.map (fun x => x.data.toList))[k]? = (fs.map fline)[k]? := by rw [hpr]
        rw [List.getElem?_map, List.getElem?_map, List.getElem?_eq_getElem hkp, List.getElem?_eq_getElem hkf, hP, hq] at h1
        exact Option.some.inj h1
      have hqo := hf q (by rw [← hq]; exact List.getElem_mem hkf)
      have htake : fs.take (k + 1) = fs.take k ++ [q] := by rw [List.take_add_one, List.getElem?_eq_getElem hkf, hq]; rfl
      have hwl : w.heap.size < wr.heap.size := by have := hR.out.2.size; omega
      have ck : wr.cell? ⟨w.heap.size, 1 + k, none⟩ = some (.string P) := by
        rw [Nat.add_comm 1 k]
        have h1 := (hR.out.2.cell (p := ⟨w.heap.size, k + 1, none⟩) (Nat.lt_succ_self _))
        rw [h1, blk_cell HK.out]
        simp [List.getElem?_eq_getElem hkp, hP]
      obtain ⟨s1, s2⟩ := hfs q (by rw [← hq]; exact List.getElem_mem hkf)
      obtain ⟨Nb, hNb⟩ : ∃ X : ByteArray, X = ⟨q.1.toArray⟩ := ⟨_, rfl⟩
      obtain ⟨Wb, hWb⟩ : ∃ X : ByteArray, X = ⟨(32 :: q.2).toArray⟩ := ⟨_, rfl⟩
      obtain ⟨Vb, hVb⟩ : ∃ X : ByteArray, X = ⟨q.2.toArray⟩ := ⟨_, rfl⟩
      have zN : Nb.size ≤ 5000 := by rw [hNb]; show q.1.toArray.size ≤ _; rw [List.size_toArray]; omega
      have zW : Wb.size ≤ 5000 := by rw [hWb]; show (32 :: q.2).toArray.size ≤ _; rw [List.size_toArray, List.length_cons]; omega
      have zV : Vb.size ≤ 5000 := by rw [hVb]; show q.2.toArray.size ≤ _; rw [List.size_toArray]; omega
      have CC : Calls Tryd.prog 17 #[.string P, .string ⟨#[58]⟩] wr fun e w' => e = .returned (.tuple #[.string Nb, .string Wb, .bool true]) ∧ ∃ n, w' = wr.drewN n := by
        have hm2 : wr.cell? ⟨0, 0, none⟩ = some (.int .i64 mx) := ((hR.out.2.cell (p := ⟨0, 0, none⟩) (by show 0 < w.heap.size + 1; omega)).trans (HBB3.out.cell (p := ⟨0, 0, none⟩) h0)).trans hm
        have := lib_Cut P ⟨#[58]⟩ mx wr (by rw [size_of hPd]; unfold fline; simp; omega) hm2
        rw [hPd, show (⟨#[58]⟩ : ByteArray).data.toList = [58] from rfl] at this
        unfold fline at this
        rw [cut_at hqo.1.2.1] at this
        rw [hNb, hWb]
        exact this
      have CT : ∀ y : World, Calls Tryd.prog 20 #[.string Wb] y fun e w' => e = .returned (.string Vb) ∧ y = w' := fun y => by
        have := trim_ Wb zW y
        rw [show Wb.data.toList = 32 :: q.2 by rw [hWb], trim_val hqo.2] at this
        rw [hVb]; exact this
      have CN : ∀ y : World, Calls Tryd.prog 21 #[.string Nb] y fun e w' => e = .returned (.bool true) ∧ y = w' := fun y => by
        have := token Nb zN y
        rw [show Nb.data.toList = q.1 by rw [hNb], hqo.1.1] at this
        exact this
      have CV : ∀ y : World, Calls Tryd.prog 22 #[.string Vb] y fun e w' => e = .returned (.bool true) ∧ y = w' := fun y => by
        have := value Vb zV y
        rw [show Vb.data.toList = q.2 by rw [hVb], hqo.2] at this
        exact this
      have hfc : fcells (fs.take (k + 1)) = fcells (fs.take k) ++ [.string Nb, .string Vb] := by rw [htake, fcells_app, hNb, hVb]; rfl
      have HFC := Lib.hid hfc
      have hown := hR.out.1
      have hbw := hR.out.2
      have hs9 : w.heap.size + 1 ≤ wr.heap.size := by omega
      clear hfc hNb hWb hVb hPd hqo htake hq hP hkp hkf
      go_wp2_with (first
        | (go_at_call 17; with_reducible refine CC.mono ?_; rintro e w5 ⟨rfl, n5, rfl⟩)
        | (go_at_call 20; with_reducible refine (CT _).mono ?_; rintro e w6 ⟨rfl, rfl⟩)
        | (go_at_call 21; with_reducible refine (CN _).mono ?_; rintro e w6 ⟨rfl, rfl⟩)
        | (go_at_call 22; with_reducible refine (CV _).mono ?_; rintro e w6 ⟨rfl, rfl⟩)
        | (at_builtin; refine wpList_append_own _ rfl _ _ 27 rfl (w.heap.size + 1) 44 i0 (.agg #[.string ByteArray.empty, .string ByteArray.empty]) 2 32 Tryd.underlying27 hi hz0 hz1 hz2 rfl (by decide) _ k (fcells (fs.take k)) rfl ((own_below hown (drewB (Below.refl wr.heap.size wr) n5)).alloc _) ⟨_, 0, none⟩ 1 1 [.string Nb, .string Vb] rfl rfl (World.news_of_block (cs := #[.string Nb, .string Vb]) (t := 44) (fr := (0, 0)) (heap_alloc_new _ _)) (by simp [Value.oneCell']) (by unfold maxLen; omega) (by omega) (by simp; omega) ?_; intro v' w7 hown7 hgrow hnil)
        | fail)
      have R1 : Below (w.heap.size + 1) w3 w7 := ((drewB hbw n5).alloc (by simp; omega) _).grown hgrow (by simp; omega) (fun r hr => (hown.lt r hr).1)
      have R2 : w7.ownsRow (w.heap.size + 1) 44 2 v' (k + 1) (fcells (fs.take (k + 1))) := by rw [HFC.out]; exact hown7
      exact ⟨⟨k + 1, by omega, by go_num, ⟨R2, R1⟩⟩, by simp [intOf]; omega⟩
    · have hkk : k = fl := by omega
      subst hkk
      have hd : decide ((k : Int) < (k : Int)) = false := by simp
      have htk : fs.take k = fs := by rw [List.take_of_length_le (by omega)]
      have HT := Lib.hid htk
      clear htk
      go_wp2_with fail
      (try simp only [Exit.inBlock, Exit.then])
      refine bodyPost_ret (results_tmp4 rfl _ _ _) rfl ?_
      refine ⟨u12, by show Ending.returned (Value.tuple #[.int .i64 (st : Int), u12, .int .i64 ((az : Int) + 4), .bool true]) = _; rw [show (((az + 4 : Nat)) : Int) = (az : Int) + 4 by omega], ?_, HBB3.out.trans (hR.out.2.mono (Nat.le_succ _))⟩
      have := hR.out.1
      rw [HT.out] at this
      exact this
end Go.Proofs.YthjkpfnkahfdgaaDoor.answerRead
