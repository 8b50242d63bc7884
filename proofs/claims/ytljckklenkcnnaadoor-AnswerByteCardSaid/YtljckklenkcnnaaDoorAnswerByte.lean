/- Proved: stillroomlaw24.AnswerByte returns true, as its tied card says it. Conditions: the three tables that the row lists hold what the program lays, which the card ties to the program's text; none else. -/
import Derived.Test.YtljckklenkcnnaaDoorCards
import Derived.Test.YtljckklenkcnnaaDoorTie
import Derived.WalkKit
import Derived.ProofKit
import Derived.OpenShut
import Derived.Deep.DeepHandedRow
import Derived.KernelRfl
import Derived.Test.YtljckklenkcnnaaDoorT
import Derived.Test.YtljckklenkcnnaaDoorY0
import Derived.Test.YtljckklenkcnnaaDoorY1
import Derived.Test.YtljckklenkcnnaaDoorY2
import Derived.Test.YtljckklenkcnnaaDoorY3
import Derived.Test.YtljckklenkcnnaaDoorY4
import Derived.Test.YtljckklenkcnnaaDoorY5
import Derived.Test.YtljckklenkcnnaaDoorY6
import Derived.Test.YtljckklenkcnnaaDoorY7
import Derived.Test.YtljckklenkcnnaaDoorAnswerByteC
namespace Go.Proofs.YtljckklenkcnnaaDoor.answerByte
open Go.Ev Go.Ev.YtljckklenkcnnaaDoor Go.ChangeShapes Go.WideShapes Go.ChangeAt Go.RowKit
set_option maxRecDepth 100000
set_option linter.unusedVariables false
theorem own : ownKnob Tryd.prog.godebug = none := by kernel_rfl
theorem mixed : Tryd.prog.follows .mixedOrders = true := by kernel_rfl
theorem rel_u8 {ρ : Env} {φ : Emb} {n : Nat} (h : n < 256) : rel ρ φ (.int .u8 n) (.int .u8 n) := by
  simp only [rel]
  exact ⟨by simp only [Mk]; omega, by rw [dec_nonneg (by simp only [Hk]; exact h)]⟩
theorem rel_rp {ρ : Env} {φ : Emb} {a : Int} {m j : Nat} (hm : m < 18446744073709551616) (h : 0 ≤ a) (h2 : a < 9223372036854775808) (hj : a.toNat % m = j) : rel ρ φ (.oth (.rs (18446744073709551616 + m) j)) (.int .i64 a) := by
  simp only [rel]
  refine ⟨a, rfl, by omega, h2, ?_, fun _ => h⟩
  have e : (18446744073709551616 + m) % 18446744073709551616 = m := by omega
  rw [e, ← hj]; congr 1; omega
theorem run_neg : allN (fun x => bytQ (.oth (.iv .i64 9223372036854775808 18446744073709551615)) x) 256 = true := by kernel_rfl
theorem wf_u8 {a : Int} (h : (Lit.int .u8 a).wf = true) : 0 ≤ a ∧ a < 256 := by
  simp [Lit.wf, IntKind.min, IntKind.max, IntKind.signed, IntKind.bits] at h
  omega
theorem walk {gl : GlF} (hT : HT gl) (a0 : Int) (w0 : (Lit.int .i64 a0).wf = true) (a1 : Int) (w1 : (Lit.int .u8 a1).wf = true) (w : World) (hgl : GlAt (rhoS gl) w) : Calls Tryd.prog 4 #[.int .i64 a0, .int .u8 a1] w fun e w' => e = .returned (.bool true) ∧ Below w.heap.size w w' := by
  have hb0 := wf_i64 w0
  have hb1 := wf_u8 w1
  obtain ⟨x, rfl⟩ : ∃ x : Nat, a1 = x := ⟨a1.toNat, by omega⟩
  have hx : x < 256 := by omega
  by_cases h0 : a0 < 0
  · exact law2_call oneS mixed (tab_ok hT) Tryd.func4 (by kernel_rfl) (by kernel_rfl) (allN_at run_neg x hx) (rels_cons.2 ⟨_, _, rfl, rel_iv_neg h0 hb0.1, rels_cons.2 ⟨_, _, rfl, rel_u8 hx, rels_nil.2 rfl⟩⟩) w hgl
  have hm : a0.toNat % 80 < 80 := Nat.mod_lt _ (by decide)
  by_cases c0 : a0.toNat % 80 = 0
  · exact law2_call oneS mixed (tab_ok hT) Tryd.func4 (by kernel_rfl) (by kernel_rfl) (y0 x hx) (rels_cons.2 ⟨_, _, rfl, rel_rp (m := 80) (by decide) (by omega) hb0.2 c0, rels_cons.2 ⟨_, _, rfl, rel_u8 hx, rels_nil.2 rfl⟩⟩) w hgl
  by_cases c1 : a0.toNat % 80 = 1
  · exact law2_call oneS mixed (tab_ok hT) Tryd.func4 (by kernel_rfl) (by kernel_rfl) (y1 x hx) (rels_cons.2 ⟨_, _, rfl, rel_rp (m := 80) (by decide) (by omega) hb0.2 c1, rels_cons.2 ⟨_, _, rfl, rel_u8 hx, rels_nil.2 rfl⟩⟩) w hgl
  by_cases c2 : a0.toNat % 80 = 2
  · exact law2_call oneS mixed (tab_ok hT) Tryd.func4 (by kernel_rfl) (by kernel_rfl) (y2 x hx) (rels_cons.2 ⟨_, _, rfl, rel_rp (m := 80) (by decide) (by omega) hb0.2 c2, rels_cons.2 ⟨_, _, rfl, rel_u8 hx, rels_nil.2 rfl⟩⟩) w hgl
  by_cases c3 : a0.toNat % 80 = 3
  · exact law2_call oneS mixed (tab_ok hT) Tryd.func4 (by kernel_rfl) (by kernel_rfl) (y3 x hx) (rels_cons.2 ⟨_, _, rfl, rel_rp (m := 80) (by decide) (by omega) hb0.2 c3, rels_cons.2 ⟨_, _, rfl, rel_u8 hx, rels_nil.2 rfl⟩⟩) w hgl
  by_cases c4 : a0.toNat % 80 = 4
  · exact law2_call oneS mixed (tab_ok hT) Tryd.func4 (by kernel_rfl) (by kernel_rfl) (y4 x hx) (rels_cons.2 ⟨_, _, rfl, rel_rp (m := 80) (by decide) (by omega) hb0.2 c4, rels_cons.2 ⟨_, _, rfl, rel_u8 hx, rels_nil.2 rfl⟩⟩) w hgl
  by_cases c5 : a0.toNat % 80 = 5
  · exact law2_call oneS mixed (tab_ok hT) Tryd.func4 (by kernel_rfl) (by kernel_rfl) (y5 x hx) (rels_cons.2 ⟨_, _, rfl, rel_rp (m := 80) (by decide) (by omega) hb0.2 c5, rels_cons.2 ⟨_, _, rfl, rel_u8 hx, rels_nil.2 rfl⟩⟩) w hgl
  by_cases c6 : a0.toNat % 80 = 6
  · exact law2_call oneS mixed (tab_ok hT) Tryd.func4 (by kernel_rfl) (by kernel_rfl) (y6 x hx) (rels_cons.2 ⟨_, _, rfl, rel_rp (m := 80) (by decide) (by omega) hb0.2 c6, rels_cons.2 ⟨_, _, rfl, rel_u8 hx, rels_nil.2 rfl⟩⟩) w hgl
  by_cases c7 : a0.toNat % 80 = 7
  · exact law2_call oneS mixed (tab_ok hT) Tryd.func4 (by kernel_rfl) (by kernel_rfl) (y7 x hx) (rels_cons.2 ⟨_, _, rfl, rel_rp (m := 80) (by decide) (by omega) hb0.2 c7, rels_cons.2 ⟨_, _, rfl, rel_u8 hx, rels_nil.2 rfl⟩⟩) w hgl
  by_cases c8 : a0.toNat % 80 = 8
  · exact law2_call oneS mixed (tab_ok hT) Tryd.func4 (by kernel_rfl) (by kernel_rfl) (y8 x hx) (rels_cons.2 ⟨_, _, rfl, rel_rp (m := 80) (by decide) (by omega) hb0.2 c8, rels_cons.2 ⟨_, _, rfl, rel_u8 hx, rels_nil.2 rfl⟩⟩) w hgl
  by_cases c9 : a0.toNat % 80 = 9
  · exact law2_call oneS mixed (tab_ok hT) Tryd.func4 (by kernel_rfl) (by kernel_rfl) (y9 x hx) (rels_cons.2 ⟨_, _, rfl, rel_rp (m := 80) (by decide) (by omega) hb0.2 c9, rels_cons.2 ⟨_, _, rfl, rel_u8 hx, rels_nil.2 rfl⟩⟩) w hgl
  by_cases c10 : a0.toNat % 80 = 10
  · exact law2_call oneS mixed (tab_ok hT) Tryd.func4 (by kernel_rfl) (by kernel_rfl) (y10 x hx) (rels_cons.2 ⟨_, _, rfl, rel_rp (m := 80) (by decide) (by omega) hb0.2 c10, rels_cons.2 ⟨_, _, rfl, rel_u8 hx, rels_nil.2 rfl⟩⟩) w hgl
  by_cases c11 : a0.toNat % 80 = 11
  · exact law2_call oneS mixed (tab_ok hT) Tryd.func4 (by kernel_rfl) (by kernel_rfl) (y11 x hx) (rels_cons.2 ⟨_, _, rfl, rel_rp (m := 80) (by decide) (by omega) hb0.2 c11, rels_cons.2 ⟨_, _, rfl, rel_u8 hx, rels_nil.2 rfl⟩⟩) w hgl
  by_cases c12 : a0.toNat % 80 = 12
  · exact law2_call oneS mixed (tab_ok hT) Tryd.func4 (by kernel_rfl) (by kernel_rfl) (y12 x hx) (rels_cons.2 ⟨_, _, rfl, rel_rp (m := 80) (by decide) (by omega) hb0.2 c12, rels_cons.2 ⟨_, _, rfl, rel_u8 hx, rels_nil.2 rfl⟩⟩) w hgl
  by_cases c13 : a0.toNat % 80 = 13
  · exact law2_call oneS mixed (tab_ok hT) Tryd.func4 (by kernel_rfl) (by kernel_rfl) (y13 x hx) (rels_cons.2 ⟨_, _, rfl, rel_rp (m := 80) (by decide) (by omega) hb0.2 c13, rels_cons.2 ⟨_, _, rfl, rel_u8 hx, rels_nil.2 rfl⟩⟩) w hgl
  by_cases c14 : a0.toNat % 80 = 14
  · exact law2_call oneS mixed (tab_ok hT) Tryd.func4 (by kernel_rfl) (by kernel_rfl) (y14 x hx) (rels_cons.2 ⟨_, _, rfl, rel_rp (m := 80) (by decide) (by omega) hb0.2 c14, rels_cons.2 ⟨_, _, rfl, rel_u8 hx, rels_nil.2 rfl⟩⟩) w hgl
  by_cases c15 : a0.toNat % 80 = 15
  · exact law2_call oneS mixed (tab_ok hT) Tryd.func4 (by kernel_rfl) (by kernel_rfl) (y15 x hx) (rels_cons.2 ⟨_, _, rfl, rel_rp (m := 80) (by decide) (by omega) hb0.2 c15, rels_cons.2 ⟨_, _, rfl, rel_u8 hx, rels_nil.2 rfl⟩⟩) w hgl
  by_cases c16 : a0.toNat % 80 = 16
  · exact law2_call oneS mixed (tab_ok hT) Tryd.func4 (by kernel_rfl) (by kernel_rfl) (y16 x hx) (rels_cons.2 ⟨_, _, rfl, rel_rp (m := 80) (by decide) (by omega) hb0.2 c16, rels_cons.2 ⟨_, _, rfl, rel_u8 hx, rels_nil.2 rfl⟩⟩) w hgl
  by_cases c17 : a0.toNat % 80 = 17
  · exact law2_call oneS mixed (tab_ok hT) Tryd.func4 (by kernel_rfl) (by kernel_rfl) (y17 x hx) (rels_cons.2 ⟨_, _, rfl, rel_rp (m := 80) (by decide) (by omega) hb0.2 c17, rels_cons.2 ⟨_, _, rfl, rel_u8 hx, rels_nil.2 rfl⟩⟩) w hgl
  by_cases c18 : a0.toNat % 80 = 18
  · exact law2_call oneS mixed (tab_ok hT) Tryd.func4 (by kernel_rfl) (by kernel_rfl) (y18 x hx) (rels_cons.2 ⟨_, _, rfl, rel_rp (m := 80) (by decide) (by omega) hb0.2 c18, rels_cons.2 ⟨_, _, rfl, rel_u8 hx, rels_nil.2 rfl⟩⟩) w hgl
  by_cases c19 : a0.toNat % 80 = 19
  · exact law2_call oneS mixed (tab_ok hT) Tryd.func4 (by kernel_rfl) (by kernel_rfl) (y19 x hx) (rels_cons.2 ⟨_, _, rfl, rel_rp (m := 80) (by decide) (by omega) hb0.2 c19, rels_cons.2 ⟨_, _, rfl, rel_u8 hx, rels_nil.2 rfl⟩⟩) w hgl
  by_cases c20 : a0.toNat % 80 = 20
  · exact law2_call oneS mixed (tab_ok hT) Tryd.func4 (by kernel_rfl) (by kernel_rfl) (y20 x hx) (rels_cons.2 ⟨_, _, rfl, rel_rp (m := 80) (by decide) (by omega) hb0.2 c20, rels_cons.2 ⟨_, _, rfl, rel_u8 hx, rels_nil.2 rfl⟩⟩) w hgl
  by_cases c21 : a0.toNat % 80 = 21
  · exact law2_call oneS mixed (tab_ok hT) Tryd.func4 (by kernel_rfl) (by kernel_rfl) (y21 x hx) (rels_cons.2 ⟨_, _, rfl, rel_rp (m := 80) (by decide) (by omega) hb0.2 c21, rels_cons.2 ⟨_, _, rfl, rel_u8 hx, rels_nil.2 rfl⟩⟩) w hgl
  by_cases c22 : a0.toNat % 80 = 22
  · exact law2_call oneS mixed (tab_ok hT) Tryd.func4 (by kernel_rfl) (by kernel_rfl) (y22 x hx) (rels_cons.2 ⟨_, _, rfl, rel_rp (m := 80) (by decide) (by omega) hb0.2 c22, rels_cons.2 ⟨_, _, rfl, rel_u8 hx, rels_nil.2 rfl⟩⟩) w hgl
  by_cases c23 : a0.toNat % 80 = 23
  · exact law2_call oneS mixed (tab_ok hT) Tryd.func4 (by kernel_rfl) (by kernel_rfl) (y23 x hx) (rels_cons.2 ⟨_, _, rfl, rel_rp (m := 80) (by decide) (by omega) hb0.2 c23, rels_cons.2 ⟨_, _, rfl, rel_u8 hx, rels_nil.2 rfl⟩⟩) w hgl
  by_cases c24 : a0.toNat % 80 = 24
  · exact law2_call oneS mixed (tab_ok hT) Tryd.func4 (by kernel_rfl) (by kernel_rfl) (y24 x hx) (rels_cons.2 ⟨_, _, rfl, rel_rp (m := 80) (by decide) (by omega) hb0.2 c24, rels_cons.2 ⟨_, _, rfl, rel_u8 hx, rels_nil.2 rfl⟩⟩) w hgl
  by_cases c25 : a0.toNat % 80 = 25
  · exact law2_call oneS mixed (tab_ok hT) Tryd.func4 (by kernel_rfl) (by kernel_rfl) (y25 x hx) (rels_cons.2 ⟨_, _, rfl, rel_rp (m := 80) (by decide) (by omega) hb0.2 c25, rels_cons.2 ⟨_, _, rfl, rel_u8 hx, rels_nil.2 rfl⟩⟩) w hgl
  by_cases c26 : a0.toNat % 80 = 26
  · exact law2_call oneS mixed (tab_ok hT) Tryd.func4 (by kernel_rfl) (by kernel_rfl) (y26 x hx) (rels_cons.2 ⟨_, _, rfl, rel_rp (m := 80) (by decide) (by omega) hb0.2 c26, rels_cons.2 ⟨_, _, rfl, rel_u8 hx, rels_nil.2 rfl⟩⟩) w hgl
  by_cases c27 : a0.toNat % 80 = 27
  · exact law2_call oneS mixed (tab_ok hT) Tryd.func4 (by kernel_rfl) (by kernel_rfl) (y27 x hx) (rels_cons.2 ⟨_, _, rfl, rel_rp (m := 80) (by decide) (by omega) hb0.2 c27, rels_cons.2 ⟨_, _, rfl, rel_u8 hx, rels_nil.2 rfl⟩⟩) w hgl
  by_cases c28 : a0.toNat % 80 = 28
  · exact law2_call oneS mixed (tab_ok hT) Tryd.func4 (by kernel_rfl) (by kernel_rfl) (y28 x hx) (rels_cons.2 ⟨_, _, rfl, rel_rp (m := 80) (by decide) (by omega) hb0.2 c28, rels_cons.2 ⟨_, _, rfl, rel_u8 hx, rels_nil.2 rfl⟩⟩) w hgl
  by_cases c29 : a0.toNat % 80 = 29
  · exact law2_call oneS mixed (tab_ok hT) Tryd.func4 (by kernel_rfl) (by kernel_rfl) (y29 x hx) (rels_cons.2 ⟨_, _, rfl, rel_rp (m := 80) (by decide) (by omega) hb0.2 c29, rels_cons.2 ⟨_, _, rfl, rel_u8 hx, rels_nil.2 rfl⟩⟩) w hgl
  by_cases c30 : a0.toNat % 80 = 30
  · exact law2_call oneS mixed (tab_ok hT) Tryd.func4 (by kernel_rfl) (by kernel_rfl) (y30 x hx) (rels_cons.2 ⟨_, _, rfl, rel_rp (m := 80) (by decide) (by omega) hb0.2 c30, rels_cons.2 ⟨_, _, rfl, rel_u8 hx, rels_nil.2 rfl⟩⟩) w hgl
  by_cases c31 : a0.toNat % 80 = 31
  · exact law2_call oneS mixed (tab_ok hT) Tryd.func4 (by kernel_rfl) (by kernel_rfl) (y31 x hx) (rels_cons.2 ⟨_, _, rfl, rel_rp (m := 80) (by decide) (by omega) hb0.2 c31, rels_cons.2 ⟨_, _, rfl, rel_u8 hx, rels_nil.2 rfl⟩⟩) w hgl
  by_cases c32 : a0.toNat % 80 = 32
  · exact law2_call oneS mixed (tab_ok hT) Tryd.func4 (by kernel_rfl) (by kernel_rfl) (y32 x hx) (rels_cons.2 ⟨_, _, rfl, rel_rp (m := 80) (by decide) (by omega) hb0.2 c32, rels_cons.2 ⟨_, _, rfl, rel_u8 hx, rels_nil.2 rfl⟩⟩) w hgl
  by_cases c33 : a0.toNat % 80 = 33
  · exact law2_call oneS mixed (tab_ok hT) Tryd.func4 (by kernel_rfl) (by kernel_rfl) (y33 x hx) (rels_cons.2 ⟨_, _, rfl, rel_rp (m := 80) (by decide) (by omega) hb0.2 c33, rels_cons.2 ⟨_, _, rfl, rel_u8 hx, rels_nil.2 rfl⟩⟩) w hgl
  by_cases c34 : a0.toNat % 80 = 34
  · exact law2_call oneS mixed (tab_ok hT) Tryd.func4 (by kernel_rfl) (by kernel_rfl) (y34 x hx) (rels_cons.2 ⟨_, _, rfl, rel_rp (m := 80) (by decide) (by omega) hb0.2 c34, rels_cons.2 ⟨_, _, rfl, rel_u8 hx, rels_nil.2 rfl⟩⟩) w hgl
  by_cases c35 : a0.toNat % 80 = 35
  · exact law2_call oneS mixed (tab_ok hT) Tryd.func4 (by kernel_rfl) (by kernel_rfl) (y35 x hx) (rels_cons.2 ⟨_, _, rfl, rel_rp (m := 80) (by decide) (by omega) hb0.2 c35, rels_cons.2 ⟨_, _, rfl, rel_u8 hx, rels_nil.2 rfl⟩⟩) w hgl
  by_cases c36 : a0.toNat % 80 = 36
  · exact law2_call oneS mixed (tab_ok hT) Tryd.func4 (by kernel_rfl) (by kernel_rfl) (y36 x hx) (rels_cons.2 ⟨_, _, rfl, rel_rp (m := 80) (by decide) (by omega) hb0.2 c36, rels_cons.2 ⟨_, _, rfl, rel_u8 hx, rels_nil.2 rfl⟩⟩) w hgl
  by_cases c37 : a0.toNat % 80 = 37
  · exact law2_call oneS mixed (tab_ok hT) Tryd.func4 (by kernel_rfl) (by kernel_rfl) (y37 x hx) (rels_cons.2 ⟨_, _, rfl, rel_rp (m := 80) (by decide) (by omega) hb0.2 c37, rels_cons.2 ⟨_, _, rfl, rel_u8 hx, rels_nil.2 rfl⟩⟩) w hgl
  by_cases c38 : a0.toNat % 80 = 38
  · exact law2_call oneS mixed (tab_ok hT) Tryd.func4 (by kernel_rfl) (by kernel_rfl) (y38 x hx) (rels_cons.2 ⟨_, _, rfl, rel_rp (m := 80) (by decide) (by omega) hb0.2 c38, rels_cons.2 ⟨_, _, rfl, rel_u8 hx, rels_nil.2 rfl⟩⟩) w hgl
  by_cases c39 : a0.toNat % 80 = 39
  · exact law2_call oneS mixed (tab_ok hT) Tryd.func4 (by kernel_rfl) (by kernel_rfl) (y39 x hx) (rels_cons.2 ⟨_, _, rfl, rel_rp (m := 80) (by decide) (by omega) hb0.2 c39, rels_cons.2 ⟨_, _, rfl, rel_u8 hx, rels_nil.2 rfl⟩⟩) w hgl
  by_cases c40 : a0.toNat % 80 = 40
  · exact law2_call oneS mixed (tab_ok hT) Tryd.func4 (by kernel_rfl) (by kernel_rfl) (y40 x hx) (rels_cons.2 ⟨_, _, rfl, rel_rp (m := 80) (by decide) (by omega) hb0.2 c40, rels_cons.2 ⟨_, _, rfl, rel_u8 hx, rels_nil.2 rfl⟩⟩) w hgl
  by_cases c41 : a0.toNat % 80 = 41
  · exact law2_call oneS mixed (tab_ok hT) Tryd.func4 (by kernel_rfl) (by kernel_rfl) (y41 x hx) (rels_cons.2 ⟨_, _, rfl, rel_rp (m := 80) (by decide) (by omega) hb0.2 c41, rels_cons.2 ⟨_, _, rfl, rel_u8 hx, rels_nil.2 rfl⟩⟩) w hgl
  by_cases c42 : a0.toNat % 80 = 42
  · exact law2_call oneS mixed (tab_ok hT) Tryd.func4 (by kernel_rfl) (by kernel_rfl) (y42 x hx) (rels_cons.2 ⟨_, _, rfl, rel_rp (m := 80) (by decide) (by omega) hb0.2 c42, rels_cons.2 ⟨_, _, rfl, rel_u8 hx, rels_nil.2 rfl⟩⟩) w hgl
  by_cases c43 : a0.toNat % 80 = 43
  · exact law2_call oneS mixed (tab_ok hT) Tryd.func4 (by kernel_rfl) (by kernel_rfl) (y43 x hx) (rels_cons.2 ⟨_, _, rfl, rel_rp (m := 80) (by decide) (by omega) hb0.2 c43, rels_cons.2 ⟨_, _, rfl, rel_u8 hx, rels_nil.2 rfl⟩⟩) w hgl
  by_cases c44 : a0.toNat % 80 = 44
  · exact law2_call oneS mixed (tab_ok hT) Tryd.func4 (by kernel_rfl) (by kernel_rfl) (y44 x hx) (rels_cons.2 ⟨_, _, rfl, rel_rp (m := 80) (by decide) (by omega) hb0.2 c44, rels_cons.2 ⟨_, _, rfl, rel_u8 hx, rels_nil.2 rfl⟩⟩) w hgl
  by_cases c45 : a0.toNat % 80 = 45
  · exact law2_call oneS mixed (tab_ok hT) Tryd.func4 (by kernel_rfl) (by kernel_rfl) (y45 x hx) (rels_cons.2 ⟨_, _, rfl, rel_rp (m := 80) (by decide) (by omega) hb0.2 c45, rels_cons.2 ⟨_, _, rfl, rel_u8 hx, rels_nil.2 rfl⟩⟩) w hgl
  by_cases c46 : a0.toNat % 80 = 46
  · exact law2_call oneS mixed (tab_ok hT) Tryd.func4 (by kernel_rfl) (by kernel_rfl) (y46 x hx) (rels_cons.2 ⟨_, _, rfl, rel_rp (m := 80) (by decide) (by omega) hb0.2 c46, rels_cons.2 ⟨_, _, rfl, rel_u8 hx, rels_nil.2 rfl⟩⟩) w hgl
  by_cases c47 : a0.toNat % 80 = 47
  · exact law2_call oneS mixed (tab_ok hT) Tryd.func4 (by kernel_rfl) (by kernel_rfl) (y47 x hx) (rels_cons.2 ⟨_, _, rfl, rel_rp (m := 80) (by decide) (by omega) hb0.2 c47, rels_cons.2 ⟨_, _, rfl, rel_u8 hx, rels_nil.2 rfl⟩⟩) w hgl
  by_cases c48 : a0.toNat % 80 = 48
  · exact law2_call oneS mixed (tab_ok hT) Tryd.func4 (by kernel_rfl) (by kernel_rfl) (y48 x hx) (rels_cons.2 ⟨_, _, rfl, rel_rp (m := 80) (by decide) (by omega) hb0.2 c48, rels_cons.2 ⟨_, _, rfl, rel_u8 hx, rels_nil.2 rfl⟩⟩) w hgl
  by_cases c49 : a0.toNat % 80 = 49
  · exact law2_call oneS mixed (tab_ok hT) Tryd.func4 (by kernel_rfl) (by kernel_rfl) (y49 x hx) (rels_cons.2 ⟨_, _, rfl, rel_rp (m := 80) (by decide) (by omega) hb0.2 c49, rels_cons.2 ⟨_, _, rfl, rel_u8 hx, rels_nil.2 rfl⟩⟩) w hgl
  by_cases c50 : a0.toNat % 80 = 50
  · exact law2_call oneS mixed (tab_ok hT) Tryd.func4 (by kernel_rfl) (by kernel_rfl) (y50 x hx) (rels_cons.2 ⟨_, _, rfl, rel_rp (m := 80) (by decide) (by omega) hb0.2 c50, rels_cons.2 ⟨_, _, rfl, rel_u8 hx, rels_nil.2 rfl⟩⟩) w hgl
  by_cases c51 : a0.toNat % 80 = 51
  · exact law2_call oneS mixed (tab_ok hT) Tryd.func4 (by kernel_rfl) (by kernel_rfl) (y51 x hx) (rels_cons.2 ⟨_, _, rfl, rel_rp (m := 80) (by decide) (by omega) hb0.2 c51, rels_cons.2 ⟨_, _, rfl, rel_u8 hx, rels_nil.2 rfl⟩⟩) w hgl
  by_cases c52 : a0.toNat % 80 = 52
  · exact law2_call oneS mixed (tab_ok hT) Tryd.func4 (by kernel_rfl) (by kernel_rfl) (y52 x hx) (rels_cons.2 ⟨_, _, rfl, rel_rp (m := 80) (by decide) (by omega) hb0.2 c52, rels_cons.2 ⟨_, _, rfl, rel_u8 hx, rels_nil.2 rfl⟩⟩) w hgl
  by_cases c53 : a0.toNat % 80 = 53
  · exact law2_call oneS mixed (tab_ok hT) Tryd.func4 (by kernel_rfl) (by kernel_rfl) (y53 x hx) (rels_cons.2 ⟨_, _, rfl, rel_rp (m := 80) (by decide) (by omega) hb0.2 c53, rels_cons.2 ⟨_, _, rfl, rel_u8 hx, rels_nil.2 rfl⟩⟩) w hgl
  by_cases c54 : a0.toNat % 80 = 54
  · exact law2_call oneS mixed (tab_ok hT) Tryd.func4 (by kernel_rfl) (by kernel_rfl) (y54 x hx) (rels_cons.2 ⟨_, _, rfl, rel_rp (m := 80) (by decide) (by omega) hb0.2 c54, rels_cons.2 ⟨_, _, rfl, rel_u8 hx, rels_nil.2 rfl⟩⟩) w hgl
  by_cases c55 : a0.toNat % 80 = 55
  · exact law2_call oneS mixed (tab_ok hT) Tryd.func4 (by kernel_rfl) (by kernel_rfl) (y55 x hx) (rels_cons.2 ⟨_, _, rfl, rel_rp (m := 80) (by decide) (by omega) hb0.2 c55, rels_cons.2 ⟨_, _, rfl, rel_u8 hx, rels_nil.2 rfl⟩⟩) w hgl
  by_cases c56 : a0.toNat % 80 = 56
  · exact law2_call oneS mixed (tab_ok hT) Tryd.func4 (by kernel_rfl) (by kernel_rfl) (y56 x hx) (rels_cons.2 ⟨_, _, rfl, rel_rp (m := 80) (by decide) (by omega) hb0.2 c56, rels_cons.2 ⟨_, _, rfl, rel_u8 hx, rels_nil.2 rfl⟩⟩) w hgl
  by_cases c57 : a0.toNat % 80 = 57
  · exact law2_call oneS mixed (tab_ok hT) Tryd.func4 (by kernel_rfl) (by kernel_rfl) (y57 x hx) (rels_cons.2 ⟨_, _, rfl, rel_rp (m := 80) (by decide) (by omega) hb0.2 c57, rels_cons.2 ⟨_, _, rfl, rel_u8 hx, rels_nil.2 rfl⟩⟩) w hgl
  by_cases c58 : a0.toNat % 80 = 58
  · exact law2_call oneS mixed (tab_ok hT) Tryd.func4 (by kernel_rfl) (by kernel_rfl) (y58 x hx) (rels_cons.2 ⟨_, _, rfl, rel_rp (m := 80) (by decide) (by omega) hb0.2 c58, rels_cons.2 ⟨_, _, rfl, rel_u8 hx, rels_nil.2 rfl⟩⟩) w hgl
  by_cases c59 : a0.toNat % 80 = 59
  · exact law2_call oneS mixed (tab_ok hT) Tryd.func4 (by kernel_rfl) (by kernel_rfl) (y59 x hx) (rels_cons.2 ⟨_, _, rfl, rel_rp (m := 80) (by decide) (by omega) hb0.2 c59, rels_cons.2 ⟨_, _, rfl, rel_u8 hx, rels_nil.2 rfl⟩⟩) w hgl
  by_cases c60 : a0.toNat % 80 = 60
  · exact law2_call oneS mixed (tab_ok hT) Tryd.func4 (by kernel_rfl) (by kernel_rfl) (y60 x hx) (rels_cons.2 ⟨_, _, rfl, rel_rp (m := 80) (by decide) (by omega) hb0.2 c60, rels_cons.2 ⟨_, _, rfl, rel_u8 hx, rels_nil.2 rfl⟩⟩) w hgl
  by_cases c61 : a0.toNat % 80 = 61
  · exact law2_call oneS mixed (tab_ok hT) Tryd.func4 (by kernel_rfl) (by kernel_rfl) (y61 x hx) (rels_cons.2 ⟨_, _, rfl, rel_rp (m := 80) (by decide) (by omega) hb0.2 c61, rels_cons.2 ⟨_, _, rfl, rel_u8 hx, rels_nil.2 rfl⟩⟩) w hgl
  by_cases c62 : a0.toNat % 80 = 62
  · exact law2_call oneS mixed (tab_ok hT) Tryd.func4 (by kernel_rfl) (by kernel_rfl) (y62 x hx) (rels_cons.2 ⟨_, _, rfl, rel_rp (m := 80) (by decide) (by omega) hb0.2 c62, rels_cons.2 ⟨_, _, rfl, rel_u8 hx, rels_nil.2 rfl⟩⟩) w hgl
  by_cases c63 : a0.toNat % 80 = 63
  · exact law2_call oneS mixed (tab_ok hT) Tryd.func4 (by kernel_rfl) (by kernel_rfl) (y63 x hx) (rels_cons.2 ⟨_, _, rfl, rel_rp (m := 80) (by decide) (by omega) hb0.2 c63, rels_cons.2 ⟨_, _, rfl, rel_u8 hx, rels_nil.2 rfl⟩⟩) w hgl
  by_cases c64 : a0.toNat % 80 = 64
  · exact law2_call oneS mixed (tab_ok hT) Tryd.func4 (by kernel_rfl) (by kernel_rfl) (y64 x hx) (rels_cons.2 ⟨_, _, rfl, rel_rp (m := 80) (by decide) (by omega) hb0.2 c64, rels_cons.2 ⟨_, _, rfl, rel_u8 hx, rels_nil.2 rfl⟩⟩) w hgl
  by_cases c65 : a0.toNat % 80 = 65
  · exact law2_call oneS mixed (tab_ok hT) Tryd.func4 (by kernel_rfl) (by kernel_rfl) (y65 x hx) (rels_cons.2 ⟨_, _, rfl, rel_rp (m := 80) (by decide) (by omega) hb0.2 c65, rels_cons.2 ⟨_, _, rfl, rel_u8 hx, rels_nil.2 rfl⟩⟩) w hgl
  by_cases c66 : a0.toNat % 80 = 66
  · exact law2_call oneS mixed (tab_ok hT) Tryd.func4 (by kernel_rfl) (by kernel_rfl) (y66 x hx) (rels_cons.2 ⟨_, _, rfl, rel_rp (m := 80) (by decide) (by omega) hb0.2 c66, rels_cons.2 ⟨_, _, rfl, rel_u8 hx, rels_nil.2 rfl⟩⟩) w hgl
  by_cases c67 : a0.toNat % 80 = 67
  · exact law2_call oneS mixed (tab_ok hT) Tryd.func4 (by kernel_rfl) (by kernel_rfl) (y67 x hx) (rels_cons.2 ⟨_, _, rfl, rel_rp (m := 80) (by decide) (by omega) hb0.2 c67, rels_cons.2 ⟨_, _, rfl, rel_u8 hx, rels_nil.2 rfl⟩⟩) w hgl
  by_cases c68 : a0.toNat % 80 = 68
  · exact law2_call oneS mixed (tab_ok hT) Tryd.func4 (by kernel_rfl) (by kernel_rfl) (y68 x hx) (rels_cons.2 ⟨_, _, rfl, rel_rp (m := 80) (by decide) (by omega) hb0.2 c68, rels_cons.2 ⟨_, _, rfl, rel_u8 hx, rels_nil.2 rfl⟩⟩) w hgl
  by_cases c69 : a0.toNat % 80 = 69
  · exact law2_call oneS mixed (tab_ok hT) Tryd.func4 (by kernel_rfl) (by kernel_rfl) (y69 x hx) (rels_cons.2 ⟨_, _, rfl, rel_rp (m := 80) (by decide) (by omega) hb0.2 c69, rels_cons.2 ⟨_, _, rfl, rel_u8 hx, rels_nil.2 rfl⟩⟩) w hgl
  by_cases c70 : a0.toNat % 80 = 70
  · exact law2_call oneS mixed (tab_ok hT) Tryd.func4 (by kernel_rfl) (by kernel_rfl) (y70 x hx) (rels_cons.2 ⟨_, _, rfl, rel_rp (m := 80) (by decide) (by omega) hb0.2 c70, rels_cons.2 ⟨_, _, rfl, rel_u8 hx, rels_nil.2 rfl⟩⟩) w hgl
  by_cases c71 : a0.toNat % 80 = 71
  · exact law2_call oneS mixed (tab_ok hT) Tryd.func4 (by kernel_rfl) (by kernel_rfl) (y71 x hx) (rels_cons.2 ⟨_, _, rfl, rel_rp (m := 80) (by decide) (by omega) hb0.2 c71, rels_cons.2 ⟨_, _, rfl, rel_u8 hx, rels_nil.2 rfl⟩⟩) w hgl
  by_cases c72 : a0.toNat % 80 = 72
  · exact law2_call oneS mixed (tab_ok hT) Tryd.func4 (by kernel_rfl) (by kernel_rfl) (y72 x hx) (rels_cons.2 ⟨_, _, rfl, rel_rp (m := 80) (by decide) (by omega) hb0.2 c72, rels_cons.2 ⟨_, _, rfl, rel_u8 hx, rels_nil.2 rfl⟩⟩) w hgl
  by_cases c73 : a0.toNat % 80 = 73
  · exact law2_call oneS mixed (tab_ok hT) Tryd.func4 (by kernel_rfl) (by kernel_rfl) (y73 x hx) (rels_cons.2 ⟨_, _, rfl, rel_rp (m := 80) (by decide) (by omega) hb0.2 c73, rels_cons.2 ⟨_, _, rfl, rel_u8 hx, rels_nil.2 rfl⟩⟩) w hgl
  by_cases c74 : a0.toNat % 80 = 74
  · exact law2_call oneS mixed (tab_ok hT) Tryd.func4 (by kernel_rfl) (by kernel_rfl) (y74 x hx) (rels_cons.2 ⟨_, _, rfl, rel_rp (m := 80) (by decide) (by omega) hb0.2 c74, rels_cons.2 ⟨_, _, rfl, rel_u8 hx, rels_nil.2 rfl⟩⟩) w hgl
  by_cases c75 : a0.toNat % 80 = 75
  · exact law2_call oneS mixed (tab_ok hT) Tryd.func4 (by kernel_rfl) (by kernel_rfl) (y75 x hx) (rels_cons.2 ⟨_, _, rfl, rel_rp (m := 80) (by decide) (by omega) hb0.2 c75, rels_cons.2 ⟨_, _, rfl, rel_u8 hx, rels_nil.2 rfl⟩⟩) w hgl
  by_cases c76 : a0.toNat % 80 = 76
  · exact law2_call oneS mixed (tab_ok hT) Tryd.func4 (by kernel_rfl) (by kernel_rfl) (y76 x hx) (rels_cons.2 ⟨_, _, rfl, rel_rp (m := 80) (by decide) (by omega) hb0.2 c76, rels_cons.2 ⟨_, _, rfl, rel_u8 hx, rels_nil.2 rfl⟩⟩) w hgl
  by_cases c77 : a0.toNat % 80 = 77
  · exact law2_call oneS mixed (tab_ok hT) Tryd.func4 (by kernel_rfl) (by kernel_rfl) (y77 x hx) (rels_cons.2 ⟨_, _, rfl, rel_rp (m := 80) (by decide) (by omega) hb0.2 c77, rels_cons.2 ⟨_, _, rfl, rel_u8 hx, rels_nil.2 rfl⟩⟩) w hgl
  by_cases c78 : a0.toNat % 80 = 78
  · exact law2_call oneS mixed (tab_ok hT) Tryd.func4 (by kernel_rfl) (by kernel_rfl) (y78 x hx) (rels_cons.2 ⟨_, _, rfl, rel_rp (m := 80) (by decide) (by omega) hb0.2 c78, rels_cons.2 ⟨_, _, rfl, rel_u8 hx, rels_nil.2 rfl⟩⟩) w hgl
  by_cases c79 : a0.toNat % 80 = 79
  · exact law2_call oneS mixed (tab_ok hT) Tryd.func4 (by kernel_rfl) (by kernel_rfl) (y79 x hx) (rels_cons.2 ⟨_, _, rfl, rel_rp (m := 80) (by decide) (by omega) hb0.2 c79, rels_cons.2 ⟨_, _, rfl, rel_u8 hx, rels_nil.2 rfl⟩⟩) w hgl
  exact absurd hm (by omega)
theorem gTab : Tryd.prog.globalNamed "internal/strconv.uint64pow10" = some 1 := by kernel_rfl
theorem gType : (Tryd.prog.globals[1]?).map (·.type) = some 77 := by kernel_rfl
theorem cellsA : Tryd.prog.cellsOf 77 = 20 := by kernel_rfl
theorem cellsE : Tryd.prog.cellsOf 66 = 1 := by kernel_rfl
theorem tabData_eq : (Rows.laid_internal_strconv_uint64pow10 : DataW Unit) = Lib.tabData .u64 Lib.pow10Tab := by kernel_rfl
theorem table {W : World} (h : laidMetH Tryd.prog Rows.answerByteRow.laid W) : Lib.TabIs Tryd.prog W "internal/strconv.uint64pow10" .u64 Lib.pow10Tab :=
  tabIs_of_mem (l := Rows.answerByteRow.laid) gTab gType Tryd.underlying77 Tryd.underlying66 cellsE cellsA (by rw [← tabData_eq]; exact .tail _ (.tail _ (.head _))) h
theorem maxlen {W : World} (h : W.ShapedOpen Tryd.prog) : ∃ m, W.cell? ⟨0, 0, none⟩ = some (.int .i64 m) :=
  Go.Proofs.cell_of_shapedOpen_int (t := 3) (zero := #[.int .i64 0]) h (of_decide_eq_true (by kernel_rfl)) (by kernel_rfl) rfl (by kernel_rfl) (by kernel_rfl) Tryd.underlying3
theorem contract (H : Type) (enc : TypeId × Value → H) (W : World) (base : Nat) (args : Array Value) (ds gs : List (DataW H)) (before : List MemPlace)
    (hval : ∀ (j : Nat) t v, Tryd.f4.params[j]? = some t → args[j]? = some v → Value.okWide Tryd.prog W .any base t v)
    (hW : DataW.Whole enc Tryd.prog Tryd.f4.params.toList Rows.answerByteSpec.vars false W args.toList ds gs before) (hL : laidMetH Tryd.prog Rows.answerByteRow.laid W) (hsh : W.ShapedOpen Tryd.prog) :
    Calls Tryd.prog 4 args W fun e W' => ∃ v, e = .returned v ∧ Rows.answerByteSpec.post enc Tryd.prog Tryd.f4 false true false false W args v W' := by
  have hW' := hW
  obtain ⟨p, q, hA0, hV, rfl, hfz, hnd⟩ := hW
  have hA : DataW.TrodAll enc Tryd.prog W 0 (fun _ => true) true Tryd.f4.params.toList args.toList ds p := hA0
  rw [Tryd.params4] at hA hval
  obtain ⟨v0, vs0, d0, ds0, p0, q0, hargs, rfl, rfl, h0, r0⟩ := trodAll_cons hA
  obtain ⟨v1, vs1, d1, ds1, p1, q1, rfl, rfl, rfl, h1, r1⟩ := trodAll_cons r0
  obtain ⟨rfl, rfl, rfl⟩ := trodAll_nil r1
  obtain rfl : args = #[v0, v1] := by cases args; simp_all
  obtain ⟨rfl, rfl⟩ := trodVars_none hV
  obtain ⟨a0, rfl, rfl, rfl, w0⟩ := open_int Tryd.underlying3 (hval 0 3 v0 rfl rfl) h0
  obtain ⟨a1, rfl, rfl, rfl, w1⟩ := open_int Tryd.underlying5 (hval 1 5 v1 rfl rfl) h1
  clear hA0
  simp only [List.append_nil] at hW'
  refine (walk ⟨TabG.of (l := [1, 0]) gTab (by simp) (table hL), NumG.of (by simp) (maxlen hsh)⟩ a0 w0 a1 w1 W glOf_at).mono fun e W' ⟨he, hg⟩ => ?_
  subst he
  exact ⟨_, rfl, post_of_fresh (pa := []) (pv := []) hW' (fun _ _ _ => (trodAll_cons_mk (shut_bool Tryd.underlying4 _) trodAll_mk0)) (fun sp _ => (trodAll_cons_mk (shut_int Tryd.underlying3 w0) (trodAll_cons_mk (shut_int Tryd.underlying5 w1) trodAll_mk0))) (fun _ _ => rfl) rfl hg (ok_one (by kernel_rfl) rfl (okWide_bool_mk Tryd.underlying4 _))⟩
noncomputable def laidWorld (os : Os) : World :=
  { World.holding Tryd.prog os ⟨#[], #[], []⟩ with heap := ((((((World.holding Tryd.prog os ⟨#[], #[], []⟩).heap.modify 4 fun
      | .cells _ t frozen => .cells #[.int .u8 0, .int .u8 1, .int .u8 28, .int .u8 2, .int .u8 29, .int .u8 14, .int .u8 24, .int .u8 3, .int .u8 30, .int .u8 22, .int .u8 20, .int .u8 15, .int .u8 25, .int .u8 17, .int .u8 4, .int .u8 8, .int .u8 31, .int .u8 27, .int .u8 13, .int .u8 23, .int .u8 21, .int .u8 19, .int .u8 16, .int .u8 7, .int .u8 26, .int .u8 12, .int .u8 18, .int .u8 6, .int .u8 11, .int .u8 5, .int .u8 10, .int .u8 9] t frozen
      | o => o).modify 5 fun
      | .cells _ t frozen => .cells #[.int .u8 0, .int .u8 1, .int .u8 56, .int .u8 2, .int .u8 57, .int .u8 49, .int .u8 28, .int .u8 3, .int .u8 61, .int .u8 58, .int .u8 42, .int .u8 50, .int .u8 38, .int .u8 29, .int .u8 17, .int .u8 4, .int .u8 62, .int .u8 47, .int .u8 59, .int .u8 36, .int .u8 45, .int .u8 43, .int .u8 51, .int .u8 22, .int .u8 53, .int .u8 39, .int .u8 33, .int .u8 30, .int .u8 24, .int .u8 18, .int .u8 12, .int .u8 5, .int .u8 63, .int .u8 55, .int .u8 48, .int .u8 27, .int .u8 60, .int .u8 41, .int .u8 37, .int .u8 16, .int .u8 46, .int .u8 35, .int .u8 44, .int .u8 21, .int .u8 52, .int .u8 32, .int .u8 23, .int .u8 11, .int .u8 54, .int .u8 26, .int .u8 40, .int .u8 15, .int .u8 34, .int .u8 20, .int .u8 31, .int .u8 10, .int .u8 25, .int .u8 14, .int .u8 19, .int .u8 9, .int .u8 13, .int .u8 8, .int .u8 7, .int .u8 6] t frozen
      | o => o).modify 1 fun
      | .cells _ t frozen => .cells #[.int .u64 1, .int .u64 10, .int .u64 100, .int .u64 1000, .int .u64 10000, .int .u64 100000, .int .u64 1000000, .int .u64 10000000, .int .u64 100000000, .int .u64 1000000000, .int .u64 10000000000, .int .u64 100000000000, .int .u64 1000000000000, .int .u64 10000000000000, .int .u64 100000000000000, .int .u64 1000000000000000, .int .u64 10000000000000000, .int .u64 100000000000000000, .int .u64 1000000000000000000, .int .u64 10000000000000000000] t frozen
      | o => o).modify 3 fun
      | .cells _ t frozen => .cells #[.int .u8 128, .int .u8 191, .int .u8 160, .int .u8 191, .int .u8 128, .int .u8 159, .int .u8 144, .int .u8 191, .int .u8 128, .int .u8 143, .int .u8 0, .int .u8 0, .int .u8 0, .int .u8 0, .int .u8 0, .int .u8 0, .int .u8 0, .int .u8 0, .int .u8 0, .int .u8 0, .int .u8 0, .int .u8 0, .int .u8 0, .int .u8 0, .int .u8 0, .int .u8 0, .int .u8 0, .int .u8 0, .int .u8 0, .int .u8 0, .int .u8 0, .int .u8 0] t frozen
      | o => o).modify 2 fun
      | .cells _ t frozen => .cells (Pinned.utf8FirstZ.map fun (n : Nat) => Value.int .u8 (n : Int)).toArray t frozen
      | o => o) }
theorem laid_met (os : Os) : laidMet Tryd.prog Rows.answerByteRow.laid ((laidWorld os).forCall (fun _ _ => 0) ⟨#[], #[.int .i64 0, .int .u8 0], []⟩).memory :=
  laidMet_of_run' 8 (by kernel_rfl) (by kernel_rfl)
theorem reads (os : Os) {H : Type} (enc : TypeId × Value → H) : ∃ places, DataW.whole enc Tryd.prog ((laidWorld os).forCall (fun _ _ => 0) ⟨#[], #[.int .i64 0, .int .u8 0], []⟩).memory Tryd.f4.params.toList Rows.answerByteSpec.vars false (#[.int .i64 0, .int .u8 0] : Array Value).toList 8 = some ([.lit (.int .i64 0), .lit (.int .u8 0)], [], places) :=
  ⟨[], by kernel_rfl⟩
theorem lifted (os : Os) (started : os.Started) (H : Type) (enc : TypeId × Value → H) (F : Stop.Interp) :
    ReturnsInHanded {} Tryd.checked os 4 .any ((OpenSpec.ofChange Rows.answerByteSpec).preRow enc Tryd.prog Tryd.f4 Rows.answerByteRow.domain false Rows.answerByteRow.laid) (((OpenSpec.ofChange Rows.answerByteSpec).at F).post enc Tryd.prog Tryd.f4 false true false false) := by
  obtain ⟨places, hx⟩ := reads os enc
  refine returnsInHanded_of_row (C := Tryd.checked) (s := OpenSpec.ofChange Rows.answerByteSpec) own started (by kernel_rfl) Tryd.func4
    (witness_row_at (enc := enc) (C := Tryd.checked) false (laidWorld os) #[.int .i64 0, .int .u8 0] rfl (by kernel_rfl) (by kernel_rfl) (by kernel_rfl)
      (OpenSpec.preRow_of_cond 8 hx (by kernel_rfl) (fun k hk => by cases hk) (by kernel_rfl) (laid_met os))) ?_
  intro W base args ds gs before hval hW _ _ _ hL hsh _
  exact contract H enc W base args ds gs before hval hW hL hsh
theorem said : Rows.AnswerByteSaid :=
  OpenClaim.holds_of_cond 4 Tryd.f4 rfl rfl rfl rfl rfl rfl rfl ⟨rfl, rfl, rfl, rfl, rfl⟩ rfl rfl rfl rfl rfl (by kernel_rfl) Tryd.func4 closed
    (of_decide_eq_true (by kernel_rfl)) (by unfold Func.isWrapper; first | (rw [if_pos (by decide +kernel)]; kernel_rfl) | (rw [if_neg (by decide +kernel)]; exact ⟨rfl, rfl⟩))
    (fun os started H enc _ F => by rw [OpenClaim.pre_eq_preRow]; exact lifted os started H enc F)
theorem plain (f : FuncId) (fn : Func) (hf : Tryd.pinned.checked.prog.funcNamed "stillroom/stillroomlaw24.AnswerByte" = some f) (hfn : Tryd.pinned.checked.prog.funcs[f]? = some fn) :
    false = Tryd.pinned.checked.prog.looks [] ∧ ∀ (j : Nat) t, fn.params[j]? = some t → Tryd.pinned.checked.prog.wantsStandIn t = false := by
  obtain rfl : f = 4 := Option.some.inj ((show Tryd.prog.funcNamed "stillroom/stillroomlaw24.AnswerByte" = some 4 by kernel_rfl).symm.trans hf) |>.symm
  obtain rfl : fn = Tryd.f4 := (Option.some.inj (Tryd.func4.symm.trans hfn)).symm
  refine ⟨by kernel_rfl, fun j t ht => ?_⟩
  rw [Tryd.params4] at ht
  rcases j with _ | _ | j
  · obtain rfl := (Option.some.inj ht : 3 = t)
    exact (show Tryd.pinned.checked.prog.wantsStandIn 3 = false by kernel_rfl)
  · obtain rfl := (Option.some.inj ht : 5 = t)
    exact (show Tryd.pinned.checked.prog.wantsStandIn 5 = false by kernel_rfl)
  · simp at ht
theorem g0 : ((Tryd.prog.funcs.toList).all fun fn => !fn.goes) = true := by kernel_rfl
theorem goes : false = Rows.answerByteRow.goesBy Tryd.pinned.checked.prog :=
  (goes_no (P := Tryd.pinned.checked.prog) (g0) _).symm
/-- ████ THE CARD ████ -/
theorem proved : Rows.AnswerByteCardSaid :=
  Claim7.holds_tied_plain_at .later [] _ _ _ _ said (fun _ h => by cases h) (by kernel_rfl) (fun _ h => by cases h) answerByte_row_tie rfl ⟨rfl, rfl⟩ (by kernel_rfl) rfl plain goes
#print axioms proved
end Go.Proofs.YtljckklenkcnnaaDoor.answerByte
