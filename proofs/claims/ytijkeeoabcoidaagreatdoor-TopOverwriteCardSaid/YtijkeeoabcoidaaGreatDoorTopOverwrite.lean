/- Proved: stillroomtop.TopOverwrite returns true, as its tied card says it. Conditions: the three tables that the row lists hold what the program lays, which the card ties to the program's text; none else. -/
import Derived.Test.YtijkeeoabcoidaaGreatDoorCards
import Derived.Test.YtijkeeoabcoidaaGreatDoorTie
import Derived.WalkKit
import Derived.ProofKit
import Derived.OpenShut
import Derived.Deep.DeepHandedRow
import Derived.KernelRfl
import Derived.Test.YtijkeeoabcoidaaGreatDoorOT
import Derived.Carry
import Derived.Test.YtijkeeoabcoidaaGreatDoorOV
import Derived.Test.YtijkeeoabcoidaaGreatDoorOY
import Derived.Test.YtijkeeoabcoidaaGreatDoorOW
import Derived.Test.YtijkeeoabcoidaaGreatDoorOY0
import Derived.Test.YtijkeeoabcoidaaGreatDoorOY1
import Derived.Test.YtijkeeoabcoidaaGreatDoorOY2
import Derived.Test.YtijkeeoabcoidaaGreatDoorOY3
import Derived.Test.YtijkeeoabcoidaaGreatDoorOY4
import Derived.Test.YtijkeeoabcoidaaGreatDoorOY5
import Derived.Test.YtijkeeoabcoidaaGreatDoorOY6
import Derived.Test.YtijkeeoabcoidaaGreatDoorOY7
import Derived.Test.YtijkeeoabcoidaaGreatDoorOY8
import Derived.Test.YtijkeeoabcoidaaGreatDoorOY9
import Derived.Test.YtijkeeoabcoidaaGreatDoorOY10
import Derived.Test.YtijkeeoabcoidaaGreatDoorOY11
import Derived.Test.YtijkeeoabcoidaaGreatDoorOY12
import Derived.Test.YtijkeeoabcoidaaGreatDoorOY13
import Derived.Test.YtijkeeoabcoidaaGreatDoorOY14
import Derived.Test.YtijkeeoabcoidaaGreatDoorOY15
import Derived.Test.YtijkeeoabcoidaaGreatDoorOY16
import Derived.Test.YtijkeeoabcoidaaGreatDoorOY17
import Derived.Test.YtijkeeoabcoidaaGreatDoorTopOverwriteC
namespace Go.Proofs.YtijkeeoabcoidaaGreatDoor.topOverwrite
open Go.Ev Go.Ev.YtijkeeoabcoidaaGreatDoor Go.ChangeShapes Go.WideShapes Go.ChangeAt Go.RowKit
set_option maxRecDepth 100000
set_option linter.unusedVariables false
theorem own : ownKnob Tryz.prog.godebug = none := by kernel_rfl
theorem mixed : Tryz.prog.follows .mixedOrders = true := by kernel_rfl
theorem brA {a b : Bool} (ha : a = true) (hb : b = true) : br a b false = true := by subst ha hb; rfl
theorem all3 {P : List Bool → Prop} (h0 : P [true, true, true]) (h1 : P [true, true, false]) (h2 : P [true, false, true]) (h3 : P [true, false, false]) (h4 : P [false, true, true]) (h5 : P [false, true, false]) (h6 : P [false, false, true]) (h7 : P [false, false, false]) : ∀ l : List Bool, l.length = 3 → P l := fun l hl => by
  obtain ⟨b0, b1, b2, rfl⟩ : ∃ b0 b1 b2 : Bool, l = [b0, b1, b2] := by
    rcases l with _ | ⟨_, _ | ⟨_, _ | ⟨_, _ | ⟨_, _⟩⟩⟩⟩
    all_goals first | exact ⟨_, _, _, rfl⟩ | (simp at hl)
  cases b0 <;> cases b1 <;> cases b2 <;> assumption
theorem all4 {P : List Bool → Prop} (h0 : P [true, true, true, true]) (h1 : P [true, true, true, false]) (h2 : P [true, true, false, true]) (h3 : P [true, true, false, false]) (h4 : P [true, false, true, true]) (h5 : P [true, false, true, false]) (h6 : P [true, false, false, true]) (h7 : P [true, false, false, false]) (h8 : P [false, true, true, true]) (h9 : P [false, true, true, false]) (h10 : P [false, true, false, true]) (h11 : P [false, true, false, false]) (h12 : P [false, false, true, true]) (h13 : P [false, false, true, false]) (h14 : P [false, false, false, true]) (h15 : P [false, false, false, false]) : ∀ l : List Bool, l.length = 4 → P l := fun l hl => by
  obtain ⟨b0, b1, b2, b3, rfl⟩ : ∃ b0 b1 b2 b3 : Bool, l = [b0, b1, b2, b3] := by
    rcases l with _ | ⟨_, _ | ⟨_, _ | ⟨_, _ | ⟨_, _ | ⟨_, _⟩⟩⟩⟩⟩
    all_goals first | exact ⟨_, _, _, _, rfl⟩ | (simp at hl)
  cases b0 <;> cases b1 <;> cases b2 <;> cases b3 <;> assumption
theorem kL7 : Gf (goB (goG 999999996 gS7 gH7 gN7)) = true := path_run (m := 999999992) (k := 4) (q := q0) (all4 (P := fun l => ptQ l gS7 gH7 gN7 = true) p7tttt p7tttf p7ttft p7ttff p7tftt p7tftf p7tfft p7tfff p7fttt p7fttf p7ftft p7ftff p7fftt p7fftf p7ffft p7ffff)
theorem kL8 : Gf (goB (goG 999999996 gS8 gH8 gN8)) = true := path_run (m := 999999992) (k := 4) (q := q0) (all4 (P := fun l => ptQ l gS8 gH8 gN8 = true) p8tttt p8tttf p8ttft p8ttff p8tftt p8tftf p8tfft p8tfff p8fttt p8fttf p8ftft p8ftff p8fftt p8fftf p8ffft p8ffff)
theorem kL9 : Gf (goB (goG 999999996 gS9 gH9 gN9)) = true := path_run (m := 999999992) (k := 4) (q := q0) (all4 (P := fun l => ptQ l gS9 gH9 gN9 = true) p9tttt p9tttf p9ttft p9ttff p9tftt p9tftf p9tfft p9tfff p9fttt p9fttf p9ftft p9ftff p9fftt p9fftf p9ffft p9ffff)
theorem kL10 : Gf (goB (goG 999999996 gS10 gH10 gN10)) = true := path_run (m := 999999992) (k := 4) (q := q0) (all4 (P := fun l => ptQ l gS10 gH10 gN10 = true) p10tttt p10tttf p10ttft p10ttff p10tftt p10tftf p10tfft p10tfff p10fttt p10fttf p10ftft p10ftff p10fftt p10fftf p10ffft p10ffff)
theorem kL11 : Gf (goB (goG 999999996 gS11 gH11 gN11)) = true := path_run (m := 999999992) (k := 4) (q := q0) (all4 (P := fun l => ptQ l gS11 gH11 gN11 = true) p11tttt p11tttf p11ttft p11ttff p11tftt p11tftf p11tfft p11tfff p11fttt p11fttf p11ftft p11ftff p11fftt p11fftf p11ffft p11ffff)
theorem kL12 : Gf (goB (goG 999999996 gS12 gH12 gN12)) = true := path_run (m := 999999992) (k := 4) (q := q0) (all4 (P := fun l => ptQ l gS12 gH12 gN12 = true) p12tttt p12tttf p12ttft p12ttff p12tftt p12tftf p12tfft p12tfff p12fttt p12fttf p12ftft p12ftff p12fftt p12fftf p12ffft p12ffff)
theorem kL13 : Gf (goB (goG 999999996 gS13 gH13 gN13)) = true := path_run (m := 999999992) (k := 4) (q := q0) (all4 (P := fun l => ptQ l gS13 gH13 gN13 = true) p13tttt p13tttf p13ttft p13ttff p13tftt p13tftf p13tfft p13tfff p13fttt p13fttf p13ftft p13ftff p13fftt p13fftf p13ffft p13ffff)
theorem kL14 : Gf (goB (goG 999999996 gS14 gH14 gN14)) = true := path_run (m := 999999992) (k := 4) (q := q0) (all4 (P := fun l => ptQ l gS14 gH14 gN14 = true) p14tttt p14tttf p14ttft p14ttff p14tftt p14tftf p14tfft p14tfff p14fttt p14fttf p14ftft p14ftff p14fftt p14fftf p14ffft p14ffff)
theorem kA : Gf (goB (goG 999999999 gS0 gH0 gN0)) = true := path_run (m := 999999996) (k := 3) (q := q0) (all3 (P := fun l => ptK l (goG 999999996) = true) ((congrFun ettt (goG 999999996)).trans (brA (brA (brA (brA (brA kL7 rfl) (brA (brA rfl kL7) rfl)) rfl) (brA (brA rfl (brA (brA kL7 rfl) (brA (brA rfl kL7) rfl))) rfl)) (brA rfl (brA (brA (brA (brA kL7 rfl) (brA (brA rfl kL7) rfl)) rfl) (brA (brA rfl (brA (brA kL7 rfl) (brA (brA rfl kL7) rfl))) rfl))))) ((congrFun ettf (goG 999999996)).trans (brA (brA (brA (brA (brA rfl rfl) (brA (brA kL8 rfl) rfl)) rfl) (brA (brA rfl (brA (brA rfl rfl) (brA (brA kL8 rfl) rfl))) rfl)) (brA rfl (brA (brA (brA (brA rfl rfl) (brA (brA kL8 rfl) rfl)) rfl) (brA (brA rfl (brA (brA rfl rfl) (brA (brA kL8 rfl) rfl))) rfl))))) ((congrFun etft (goG 999999996)).trans (brA (brA (brA rfl rfl) (brA (brA (brA (brA kL11 rfl) (brA (brA rfl kL11) rfl)) rfl) rfl)) (brA rfl (brA (brA rfl rfl) (brA (brA (brA (brA kL11 rfl) (brA (brA rfl kL11) rfl)) rfl) rfl))))) ((congrFun etff (goG 999999996)).trans (brA (brA (brA rfl rfl) (brA (brA (brA (brA rfl rfl) (brA (brA kL12 rfl) rfl)) rfl) rfl)) (brA rfl (brA (brA rfl rfl) (brA (brA (brA (brA rfl rfl) (brA (brA kL12 rfl) rfl)) rfl) rfl))))) ((congrFun eftt (goG 999999996)).trans (brA rfl (brA (brA (brA (brA (brA kL13 rfl) (brA (brA rfl kL13) rfl)) rfl) (brA (brA rfl (brA (brA kL13 rfl) (brA (brA rfl kL13) rfl))) rfl)) rfl))) ((congrFun eftf (goG 999999996)).trans (brA rfl (brA (brA (brA (brA (brA rfl rfl) (brA (brA kL14 rfl) rfl)) rfl) (brA (brA rfl (brA (brA rfl rfl) (brA (brA kL14 rfl) rfl))) rfl)) rfl))) ((congrFun efft (goG 999999996)).trans (brA rfl (brA (brA (brA rfl rfl) (brA (brA (brA (brA kL9 rfl) (brA (brA rfl kL9) rfl)) rfl) rfl)) rfl))) ((congrFun efff (goG 999999996)).trans (brA rfl (brA (brA (brA rfl rfl) (brA (brA (brA (brA rfl rfl) (brA (brA kL10 rfl) rfl)) rfl) rfl)) rfl))))
theorem run_A : Gf (Ld cfR (some xc3) [.oth (.rs 36893488147419103240 129127208515966861312), .oth (.ro 0 0 9223372036854775807 1)] AT Pp) = true := run_of 999999999 rfl (congrFun s_A fun c => goC c 999999999) kA
theorem run_B : Gf (Ld cfR (some xc3) [.oth (.rs 36893488147419103240 129127208515966861312), .oth (.os 0 0)] AT Pp) = true := run_of 999999999 rfl (congrFun s_B fun c => goC c 999999999) kB
theorem rel_os {ρ : Env} {φ : B6} {p : Option Addr} {len cap lo hi : Nat} (h1 : lo ≤ len) (h2 : len ≤ hi) (h3 : len ≤ cap) : AG ρ φ (.oth (.os lo hi)) (.slice p len cap) := by
  simp only [AG]; exact ⟨p, len, cap, rfl, h1, h2, h3⟩
theorem walk {w : World} (hT : ∀ l, 1 ∈ l → HT (Nh w l)) (a0 : Int) (w0 : (Lit.int .i64 a0).wf = true) (sa : Option Addr) (sl sc : Nat) (hs : sl ≤ sc) (hm : sc ≤ maxLen)
    (hop : 1 ≤ sl → ∃ b o c e' fr, sa = some ⟨b, o, none⟩ ∧ w.heap[b]? = some (.cells c e' fr) ∧ ∀ j, j < sl → ∃ r, c[o + j]? = some (.bool r)) :
    Calls Tryz.prog 3 #[.int .i64 a0, .slice sa sl sc] w fun e w' => e = .returned (.bool true) ∧ Below w.heap.size w w' := by
  have hb0 := Vj w0
  have hj : a0.natAbs % 8 < 8 := Nat.mod_lt _ (by decide)
  have hmx : sc ≤ 9223372036854775807 := hm
  have rn := fun (ρ : Env) (φ : B6) => VF (ρ := ρ) (φ := φ) (m := 8) (lo := 0) (hi := 7) (by decide) (by decide) hb0.1 hb0.2 (Nat.zero_le _) (by omega : a0.natAbs % 8 ≤ 7)
  by_cases hz : sl = 0
  · exact MC canN3_ok oneS mixed (tab_ok (hT [1] (by simp))) ec3 Tryz.func3 (by kernel_rfl) (by kernel_rfl) run_B (AE.2 ⟨_, _, rfl, rn _ _, AE.2 ⟨_, _, rfl, rel_os (Nat.zero_le _) (by omega) hs, AR.2 rfl⟩⟩) w QF
  obtain ⟨b, o, c, e, fr, rfl, hw, hc⟩ := hop (by omega)
  have hg : ∀ l, b ∈ l → Nh w l b = some (c, e, fr) := fun l hl => R6 hl hw
  have g := hT [1, b] (by simp)
  exact MC canN3_ok oneS mixed (tab_ok g) ec3 Tryz.func3 (by kernel_rfl) (by kernel_rfl) run_A (AE.2 ⟨_, _, rfl, rn _ _, AE.2 ⟨_, _, rfl, SN (hg _ (by simp)) hc (Nat.zero_le _) (by omega) hs, AR.2 rfl⟩⟩) w QF
theorem gTab : Tryz.prog.globalNamed "internal/strconv.uint64pow10" = some 1 := by kernel_rfl
theorem gType : (Tryz.prog.globals[1]?).map (·.type) = some 506 := by kernel_rfl
theorem cellsA : Tryz.prog.cellsOf 506 = 20 := by kernel_rfl
theorem cellsE : Tryz.prog.cellsOf 98 = 1 := by kernel_rfl
theorem tabData_eq : (Rows.laid_internal_strconv_uint64pow10 : DataW Unit) = Lib.tabData .u64 Lib.pow10Tab := by kernel_rfl
theorem table {W : World} (h : laidMetH Tryz.prog Rows.topOverwriteRow.laid W) : Lib.TabIs Tryz.prog W "internal/strconv.uint64pow10" .u64 Lib.pow10Tab :=
  Nu (l := Rows.topOverwriteRow.laid) gTab gType Tryz.underlying506 Tryz.underlying98 cellsE cellsA (by rw [← tabData_eq]; exact .tail _ (.tail _ (.head _))) h
theorem contract (H : Type) (enc : TypeId × Value → H) (W : World) (base : Nat) (args : Array Value) (ds gs : List (DataW H)) (before : List MemPlace)
    (hval : ∀ (j : Nat) t v, Tryz.f3.params[j]? = some t → args[j]? = some v → Value.okWide Tryz.prog W .any base t v)
    (hW : DataW.Whole enc Tryz.prog Tryz.f3.params.toList Rows.topOverwriteSpec.vars false W args.toList ds gs before) (hL : laidMetH Tryz.prog Rows.topOverwriteRow.laid W) :
    Calls Tryz.prog 3 args W fun e W' => ∃ v, e = .returned v ∧ Rows.topOverwriteSpec.post enc Tryz.prog Tryz.f3 false true false false W args v W' := by
  have hW' := hW
  have hlt := fun p (hp : p ∈ before) => hW.lt p hp
  obtain ⟨p, q, hA0, hV, rfl, hfz, hnd⟩ := hW
  have hA : DataW.TrodAll enc Tryz.prog W 0 (fun _ => true) true Tryz.f3.params.toList args.toList ds p := hA0
  rw [Tryz.params3] at hA hval
  obtain ⟨v0, vs0, d0, ds0, p0, q0, hargs, rfl, rfl, h0, r0⟩ := trodAll_cons hA
  obtain ⟨v1, vs1, d1, ds1, p1, q1, rfl, rfl, rfl, h1, r1⟩ := trodAll_cons r0
  obtain ⟨rfl, rfl, rfl⟩ := trodAll_nil r1
  obtain rfl : args = #[v0, v1] := by cases args; simp_all
  obtain ⟨rfl, rfl⟩ := trodVars_none hV
  obtain ⟨a0, rfl, rfl, rfl, w0⟩ := open_int Tryz.underlying3 (hval 0 3 v0 rfl rfl) h0
  obtain ⟨sa1, sl1, sc1, rfl⟩ := okWide_slice Tryz.underlying22 (hval 1 22 v1 rfl rfl)
  have hs1 : sl1 ≤ sc1 ∧ sc1 ≤ maxLen := by
    obtain ⟨fuel, hf⟩ := h1
    rcases DataW.trod_slice Tryz.underlying22 hf with hz | ⟨a, len, cap, elems, rest, n, _, hc, _, _, hl, hm, _⟩
    · have := hz.1
      simp [Value.cells] at this
      obtain ⟨_, rfl, rfl⟩ := this
      exact ⟨Nat.le_refl _, Nat.zero_le _⟩
    · simp [Value.cells] at hc
      obtain ⟨_, rfl, rfl⟩ := hc
      exact ⟨hl, hm⟩
  have hop1 : 1 ≤ sl1 → ∃ b o c e' fr, sa1 = some ⟨b, o, none⟩ ∧ W.heap[b]? = some (.cells c e' fr) ∧ ∀ j, j < sl1 → ∃ r, c[o + j]? = some (.bool r) := by
    intro hpos
    obtain ⟨fuel, hf⟩ := h1
    rcases Js Tryz.underlying22 Tryz.underlying4 (by kernel_rfl) hf with hz | ⟨a, len, cap, hc, _, _, hx⟩
    · simp [Value.cells] at hz
      obtain ⟨_, rfl, _⟩ := hz
      omega
    · simp [Value.cells] at hc
      obtain ⟨rfl, rfl, rfl⟩ := hc
      obtain ⟨b, o, c, e', fr, e1, e2, e3⟩ := hx hpos
      exact ⟨b, o, c, e', fr, by rw [e1], e2, e3⟩
  clear hA0
  simp only [List.append_nil, List.nil_append] at hW' hlt
  refine (walk (fun l hl => P8.of (l := l) gTab hl (table hL)) a0 w0 sa1 sl1 sc1 hs1.1 hs1.2 hop1).mono fun e W' ⟨he, hg⟩ => ?_
  subst he
  exact ⟨_, rfl, Lg (pa := [] ++ (p1 ++ ([]))) (pv := []) hW' (fun _ _ _ => (trodAll_cons_mk (shut_bool Tryz.underlying4 _) trodAll_mk0)) (fun sp hsp => (trodAll_cons_mk (shut_int Tryz.underlying3 w0) (trodAll_cons_mk (Go.WideElems.Trod_stays (by kernel_rfl) (by kernel_rfl) (of_decide_eq_true (by kernel_rfl)) h1 (fun x hx => hg.same (hlt x hx)) hsp) trodAll_mk0))) (fun _ _ => rfl) (by simp) hg (ok_one (by kernel_rfl) rfl (okWide_bool_mk Tryz.underlying4 _))⟩
noncomputable def laidWorld (os : Os) : World :=
  { World.holding Tryz.prog os ⟨#[], #[], []⟩ with heap := ((((((World.holding Tryz.prog os ⟨#[], #[], []⟩).heap.modify 2 fun
      | .cells _ t frozen => .cells #[.int .u8 0, .int .u8 1, .int .u8 28, .int .u8 2, .int .u8 29, .int .u8 14, .int .u8 24, .int .u8 3, .int .u8 30, .int .u8 22, .int .u8 20, .int .u8 15, .int .u8 25, .int .u8 17, .int .u8 4, .int .u8 8, .int .u8 31, .int .u8 27, .int .u8 13, .int .u8 23, .int .u8 21, .int .u8 19, .int .u8 16, .int .u8 7, .int .u8 26, .int .u8 12, .int .u8 18, .int .u8 6, .int .u8 11, .int .u8 5, .int .u8 10, .int .u8 9] t frozen
      | o => o).modify 3 fun
      | .cells _ t frozen => .cells #[.int .u8 0, .int .u8 1, .int .u8 56, .int .u8 2, .int .u8 57, .int .u8 49, .int .u8 28, .int .u8 3, .int .u8 61, .int .u8 58, .int .u8 42, .int .u8 50, .int .u8 38, .int .u8 29, .int .u8 17, .int .u8 4, .int .u8 62, .int .u8 47, .int .u8 59, .int .u8 36, .int .u8 45, .int .u8 43, .int .u8 51, .int .u8 22, .int .u8 53, .int .u8 39, .int .u8 33, .int .u8 30, .int .u8 24, .int .u8 18, .int .u8 12, .int .u8 5, .int .u8 63, .int .u8 55, .int .u8 48, .int .u8 27, .int .u8 60, .int .u8 41, .int .u8 37, .int .u8 16, .int .u8 46, .int .u8 35, .int .u8 44, .int .u8 21, .int .u8 52, .int .u8 32, .int .u8 23, .int .u8 11, .int .u8 54, .int .u8 26, .int .u8 40, .int .u8 15, .int .u8 34, .int .u8 20, .int .u8 31, .int .u8 10, .int .u8 25, .int .u8 14, .int .u8 19, .int .u8 9, .int .u8 13, .int .u8 8, .int .u8 7, .int .u8 6] t frozen
      | o => o).modify 1 fun
      | .cells _ t frozen => .cells #[.int .u64 1, .int .u64 10, .int .u64 100, .int .u64 1000, .int .u64 10000, .int .u64 100000, .int .u64 1000000, .int .u64 10000000, .int .u64 100000000, .int .u64 1000000000, .int .u64 10000000000, .int .u64 100000000000, .int .u64 1000000000000, .int .u64 10000000000000, .int .u64 100000000000000, .int .u64 1000000000000000, .int .u64 10000000000000000, .int .u64 100000000000000000, .int .u64 1000000000000000000, .int .u64 10000000000000000000] t frozen
      | o => o).modify 5 fun
      | .cells _ t frozen => .cells #[.int .u8 128, .int .u8 191, .int .u8 160, .int .u8 191, .int .u8 128, .int .u8 159, .int .u8 144, .int .u8 191, .int .u8 128, .int .u8 143, .int .u8 0, .int .u8 0, .int .u8 0, .int .u8 0, .int .u8 0, .int .u8 0, .int .u8 0, .int .u8 0, .int .u8 0, .int .u8 0, .int .u8 0, .int .u8 0, .int .u8 0, .int .u8 0, .int .u8 0, .int .u8 0, .int .u8 0, .int .u8 0, .int .u8 0, .int .u8 0, .int .u8 0, .int .u8 0] t frozen
      | o => o).modify 4 fun
      | .cells _ t frozen => .cells (Pinned.utf8FirstZ.map fun (n : Nat) => Value.int .u8 (n : Int)).toArray t frozen
      | o => o) }
theorem laid_met (os : Os) : laidMet Tryz.prog Rows.topOverwriteRow.laid ((laidWorld os).forCall (fun _ _ => 0) ⟨#[], #[.int .i64 0, .slice none 0 0], []⟩).memory :=
  laidMet_of_run' 8 (by kernel_rfl) (by kernel_rfl)
theorem reads (os : Os) {H : Type} (enc : TypeId × Value → H) : ∃ places, DataW.whole enc Tryz.prog ((laidWorld os).forCall (fun _ _ => 0) ⟨#[], #[.int .i64 0, .slice none 0 0], []⟩).memory Tryz.f3.params.toList Rows.topOverwriteSpec.vars false (#[.int .i64 0, .slice none 0 0] : Array Value).toList 8 = some ([.lit (.int .i64 0), .nil], [], places) :=
  ⟨[], by kernel_rfl⟩
theorem lifted (os : Os) (started : os.Started) (H : Type) (enc : TypeId × Value → H) (F : Stop.Interp) :
    ReturnsInHanded {} Tryz.checked os 3 .any ((OpenSpec.ofChange Rows.topOverwriteSpec).preRow enc Tryz.prog Tryz.f3 Rows.topOverwriteRow.domain false Rows.topOverwriteRow.laid) (((OpenSpec.ofChange Rows.topOverwriteSpec).at F).post enc Tryz.prog Tryz.f3 false true false false) := by
  obtain ⟨places, hx⟩ := reads os enc
  refine returnsInHanded_of_row (C := Tryz.checked) (s := OpenSpec.ofChange Rows.topOverwriteSpec) own started (by kernel_rfl) Tryz.func3
    (witness_row_at (enc := enc) (C := Tryz.checked) false (laidWorld os) #[.int .i64 0, .slice none 0 0] rfl (by kernel_rfl) (by kernel_rfl) (by kernel_rfl)
      (OpenSpec.preRow_of_cond 8 hx (by kernel_rfl) (fun k hk => by cases hk) (by kernel_rfl) (laid_met os))) ?_
  intro W base args ds gs before hval hW _ _ _ hL hsh _
  exact contract H enc W base args ds gs before hval hW hL
theorem said : Rows.TopOverwriteSaid :=
  OpenClaim.holds_of_cond 3 Tryz.f3 rfl rfl rfl rfl rfl rfl rfl ⟨rfl, rfl, rfl, rfl, rfl⟩ rfl rfl rfl rfl rfl (by kernel_rfl) Tryz.func3 closed
    (of_decide_eq_true (by kernel_rfl)) (by unfold Func.isWrapper; first | (rw [if_pos (by decide +kernel)]; kernel_rfl) | (rw [if_neg (by decide +kernel)]; exact ⟨rfl, rfl⟩))
    (fun os started H enc _ F => by rw [OpenClaim.pre_eq_preRow]; exact lifted os started H enc F)
theorem plain (f : FuncId) (fn : Func) (hf : Tryz.pinned.checked.prog.funcNamed "stillroom/stillroomtop.TopOverwrite" = some f) (hfn : Tryz.pinned.checked.prog.funcs[f]? = some fn) :
    true = Tryz.pinned.checked.prog.looks [] ∧ ∀ (j : Nat) t, fn.params[j]? = some t → Tryz.pinned.checked.prog.wantsStandIn t = false := by
  obtain rfl : f = 3 := Option.some.inj ((show Tryz.prog.funcNamed "stillroom/stillroomtop.TopOverwrite" = some 3 by kernel_rfl).symm.trans hf) |>.symm
  obtain rfl : fn = Tryz.f3 := (Option.some.inj (Tryz.func3.symm.trans hfn)).symm
  refine ⟨by kernel_rfl, fun j t ht => ?_⟩
  rw [Tryz.params3] at ht
  rcases j with _ | _ | j
  · obtain rfl := (Option.some.inj ht : 3 = t)
    exact (show Tryz.pinned.checked.prog.wantsStandIn 3 = false by kernel_rfl)
  · obtain rfl := (Option.some.inj ht : 22 = t)
    exact (show Tryz.pinned.checked.prog.wantsStandIn 22 = false by kernel_rfl)
  · simp at ht
theorem g0 : ((Tryz.prog.funcs.toList.take 140).all fun fn => !fn.goes) = true := by kernel_rfl
theorem g1 : (((Tryz.prog.funcs.toList.drop 140).take 140).all fun fn => !fn.goes) = true := by kernel_rfl
theorem g2 : (((Tryz.prog.funcs.toList.drop 280).take 140).all fun fn => !fn.goes) = true := by kernel_rfl
theorem g3 : (((Tryz.prog.funcs.toList.drop 420)).all fun fn => !fn.goes) = true := by kernel_rfl
theorem goes : false = Rows.topOverwriteRow.goesBy Tryz.pinned.checked.prog :=
  (Up (P := Tryz.pinned.checked.prog) (P6 140 g0 (P6 140 g1 (P6 140 (by rw [List.drop_drop]; exact g2) ((by rw [List.drop_drop, List.drop_drop]; exact g3))))) _).symm
/-- ████ THE CARD ████ -/
theorem proved : Rows.TopOverwriteCardSaid :=
  Claim7.holds_tied_plain_at .later [] _ _ _ _ said (fun _ h => by cases h) (by kernel_rfl) (fun _ h => by cases h) topOverwrite_row_tie rfl ⟨rfl, rfl⟩ (by kernel_rfl) rfl plain goes
#print axioms proved
end Go.Proofs.YtijkeeoabcoidaaGreatDoor.topOverwrite
