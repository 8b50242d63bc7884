/- The table of the functions. -/
import Derived.Test.YtddknjmlhbeabaaF0
import Derived.KernelRfl
namespace Go.Ev.Ytddknjmlhbeabaa
open Go Go.Ev
set_option linter.unusedVariables false
set_option maxRecDepth 100000

def sren : Shelf.Ren := { f := fun x => match x with | 6 => 32 | 8 => 41 | 9 => 40 | 19 => 53 | 20 => 54 | 21 => 44 | 22 => 45 | 23 => 46 | 24 => 47 | 25 => 48 | 26 => 49 | 27 => 50 | 28 => 51 | 29 => 52 | 31 => 64 | 32 => 65 | 36 => 63 | 37 => 66 | 38 => 67 | 39 => 68 | 41 => 72 | _ => 0, t := fun x => match x with | 0 => 0 | 3 => 3 | 4 => 4 | 5 => 5 | 9 => 9 | 26 => 42 | 27 => 42 | 29 => 9 | 32 => 88 | 35 => 92 | 36 => 93 | 41 => 98 | 44 => 35 | 46 => 49 | 53 => 106 | 57 => 110 | 63 => 115 | 64 => 116 | _ => 0, g := fun _ => 0 }
theorem slay : Go.Proofs.SlLaysM.n6 Go.Proofs.Try.prog sren where
  mixed := by kernel_rfl
  f6 := ⟨Go.Proofs.Try.f32.name, of_decide_eq_true (by kernel_rfl), Go.Proofs.Try.func32.trans (by kernel_rfl)⟩
  f8 := Go.Proofs.Try.func41.trans (by kernel_rfl)
  f9 := ⟨Go.Proofs.Try.f40.name, of_decide_eq_true (by kernel_rfl), Go.Proofs.Try.func40.trans (by kernel_rfl)⟩
  f19 := Go.Proofs.Try.func53.trans (by kernel_rfl)
  f20 := Go.Proofs.Try.func54.trans (by kernel_rfl)
  f21 := ⟨Go.Proofs.Try.f44.name, of_decide_eq_true (by kernel_rfl), Go.Proofs.Try.func44.trans (by kernel_rfl)⟩
  f22 := ⟨Go.Proofs.Try.f45.name, of_decide_eq_true (by kernel_rfl), Go.Proofs.Try.func45.trans (by kernel_rfl)⟩
  f23 := ⟨Go.Proofs.Try.f46.name, of_decide_eq_true (by kernel_rfl), Go.Proofs.Try.func46.trans (by kernel_rfl)⟩
  f24 := ⟨Go.Proofs.Try.f47.name, of_decide_eq_true (by kernel_rfl), Go.Proofs.Try.func47.trans (by kernel_rfl)⟩
  f25 := ⟨Go.Proofs.Try.f48.name, of_decide_eq_true (by kernel_rfl), Go.Proofs.Try.func48.trans (by kernel_rfl)⟩
  f26 := ⟨Go.Proofs.Try.f49.name, of_decide_eq_true (by kernel_rfl), Go.Proofs.Try.func49.trans (by kernel_rfl)⟩
  f27 := ⟨Go.Proofs.Try.f50.name, of_decide_eq_true (by kernel_rfl), Go.Proofs.Try.func50.trans (by kernel_rfl)⟩
  f28 := ⟨Go.Proofs.Try.f51.name, of_decide_eq_true (by kernel_rfl), Go.Proofs.Try.func51.trans (by kernel_rfl)⟩
  f29 := ⟨Go.Proofs.Try.f52.name, of_decide_eq_true (by kernel_rfl), Go.Proofs.Try.func52.trans (by kernel_rfl)⟩
  f31 := Go.Proofs.Try.func64.trans (by kernel_rfl)
  f32 := Go.Proofs.Try.func65.trans (by kernel_rfl)
  f36 := ⟨Go.Proofs.Try.f63.name, of_decide_eq_true (by kernel_rfl), Go.Proofs.Try.func63.trans (by kernel_rfl)⟩
  f37 := ⟨Go.Proofs.Try.f66.name, of_decide_eq_true (by kernel_rfl), Go.Proofs.Try.func66.trans (by kernel_rfl)⟩
  f38 := ⟨Go.Proofs.Try.f67.name, of_decide_eq_true (by kernel_rfl), Go.Proofs.Try.func67.trans (by kernel_rfl)⟩
  f39 := ⟨Go.Proofs.Try.f68.name, of_decide_eq_true (by kernel_rfl), Go.Proofs.Try.func68.trans (by kernel_rfl)⟩
  f41 := ⟨Go.Proofs.Try.f72.name, of_decide_eq_true (by kernel_rfl), Go.Proofs.Try.func72.trans (by kernel_rfl)⟩
  t0 := Go.Proofs.Try.underlying0
  a0 := Go.Proofs.Try.isAgg0
  z0 := Go.Proofs.Try.sizeOf0
  v0 := Go.Proofs.Try.zeroValue0
  t3 := Go.Proofs.Try.underlying3
  a3 := Go.Proofs.Try.isAgg3
  z3 := Go.Proofs.Try.sizeOf3
  v3 := Go.Proofs.Try.zeroValue3
  t4 := Go.Proofs.Try.underlying4
  a4 := Go.Proofs.Try.isAgg4
  z4 := Go.Proofs.Try.sizeOf4
  v4 := Go.Proofs.Try.zeroValue4
  t5 := Go.Proofs.Try.underlying5
  a5 := Go.Proofs.Try.isAgg5
  z5 := Go.Proofs.Try.sizeOf5
  v5 := Go.Proofs.Try.zeroValue5
  t9 := Go.Proofs.Try.underlying9
  a9 := Go.Proofs.Try.isAgg9
  z9 := Go.Proofs.Try.sizeOf9
  v9 := Go.Proofs.Try.zeroValue9
  t26 := Go.Proofs.Try.underlying42
  a26 := Go.Proofs.Try.isAgg42
  z26 := Go.Proofs.Try.sizeOf42
  v26 := Go.Proofs.Try.zeroValue42
  t27 := Go.Proofs.Try.underlying42
  a27 := Go.Proofs.Try.isAgg42
  z27 := Go.Proofs.Try.sizeOf42
  v27 := Go.Proofs.Try.zeroValue42
  t29 := Go.Proofs.Try.underlying9
  a29 := Go.Proofs.Try.isAgg9
  z29 := Go.Proofs.Try.sizeOf9
  v29 := Go.Proofs.Try.zeroValue9
  t32 := Go.Proofs.Try.underlying88
  a32 := Go.Proofs.Try.isAgg88
  z32 := Go.Proofs.Try.sizeOf88
  v32 := Go.Proofs.Try.zeroValue88
  t35 := Go.Proofs.Try.underlying92
  a35 := Go.Proofs.Try.isAgg92
  z35 := Go.Proofs.Try.sizeOf92
  v35 := Go.Proofs.Try.zeroValue92
  t36 := Go.Proofs.Try.underlying93
  a36 := Go.Proofs.Try.isAgg93
  z36 := Go.Proofs.Try.sizeOf93
  v36 := Go.Proofs.Try.zeroValue93
  t41 := Go.Proofs.Try.underlying98
  a41 := Go.Proofs.Try.isAgg98
  z41 := Go.Proofs.Try.sizeOf98
  v41 := Go.Proofs.Try.zeroValue98
  t44 := Go.Proofs.Try.underlying35
  a44 := Go.Proofs.Try.isAgg35
  z44 := Go.Proofs.Try.sizeOf35
  v44 := Go.Proofs.Try.zeroValue35
  t46 := Go.Proofs.Try.underlying49
  a46 := Go.Proofs.Try.isAgg49
  z46 := Go.Proofs.Try.sizeOf49
  v46 := Go.Proofs.Try.zeroValue49
  t53 := Go.Proofs.Try.underlying106
  a53 := Go.Proofs.Try.isAgg106
  z53 := Go.Proofs.Try.sizeOf106
  v53 := Go.Proofs.Try.zeroValue106
  t57 := Go.Proofs.Try.underlying110
  a57 := Go.Proofs.Try.isAgg110
  z57 := Go.Proofs.Try.sizeOf110
  v57 := Go.Proofs.Try.zeroValue110
  t63 := Go.Proofs.Try.underlying115
  a63 := Go.Proofs.Try.isAgg115
  z63 := Go.Proofs.Try.sizeOf115
  v63 := Go.Proofs.Try.zeroValue115
  t64 := Go.Proofs.Try.underlying116
  a64 := Go.Proofs.Try.isAgg116
  z64 := Go.Proofs.Try.sizeOf116
  v64 := Go.Proofs.Try.zeroValue116

theorem sort32 : SortFnS Go.Proofs.Try.prog 32 := ⟨fun blk off cap ss w hH hb hl => Go.Proofs.AnyM.slices_Sort_string slay blk off cap ss w hH hb hl, fun p cap w => Go.Proofs.AnyM.slices_Sort_string_none slay p cap w⟩
noncomputable abbrev rhoS : Env := envAp Go.Proofs.Try.prog []
theorem oneS : OneSym rhoS := oneAp
variable {B : Nat}
namespace Z
noncomputable def ta0 : FA := .mk none none none none none (some x5) none none none none none none none none none (some x15)
theorem oa0 : OKA PP rhoS B 0 ta0 := okA_mk OKO.no OKO.no OKO.no OKO.no OKO.no (OKO.fn e5) OKO.no OKO.no OKO.no OKO.no OKO.no OKO.no OKO.no OKO.no OKO.no (OKO.fn e15)
noncomputable def ta1 : FA := .mk (some x16) (some x17) (some x18) (some x19) (some x20) (some x21) (some x22) none none none none none (some x28) (some x29) (some x30) (some x31)
theorem oa1 : OKA PP rhoS B 16 ta1 := okA_mk (OKO.fn e16) (OKO.fn e17) (OKO.fn e18) (OKO.fn e19) (OKO.fn e20) (OKO.fn e21) (OKO.fn e22) OKO.no OKO.no OKO.no OKO.no OKO.no (OKO.fn e28) (OKO.fn e29) (OKO.fn e30) (OKO.fn e31)
noncomputable def ta2 : FA := .mk (some (.prim pSortS)) (some x33) (some x34) (some x35) none none none (some x39) none none none none none none none none
theorem oa2 : OKA PP rhoS B 32 ta2 := okA_mk (OKO.pr (@sortS_ok Go.Proofs.Try.prog rhoS B 32 Go.Proofs.Try.f32 Go.Proofs.Try.func32 (by kernel_rfl) (by kernel_rfl) sort32)) (OKO.fn e33) (OKO.fn e34) (OKO.fn e35) OKO.no OKO.no OKO.no (OKO.fn e39) OKO.no OKO.no OKO.no OKO.no OKO.no OKO.no OKO.no OKO.no
noncomputable def tb0 : FB := .mk ta0 ta1 ta2 noA noA noA noA noA noA noA noA noA noA noA noA noA
theorem ob0 : OKB PP rhoS B 0 tb0 := okB_mk (oa0) (oa1) (oa2) okA_no okA_no okA_no okA_no okA_no okA_no okA_no okA_no okA_no okA_no okA_no okA_no okA_no
noncomputable def tab : FC := .mk tb0 noB noB noB noB noB noB noB noB noB noB noB noB noB noB noB
theorem tab_ok (B : Nat) : TabOK Go.Proofs.Try.prog rhoS B tab := .mk (okC_mk (ob0) okB_no okB_no okB_no okB_no okB_no okB_no okB_no okB_no okB_no okB_no okB_no okB_no okB_no okB_no) ha_nil
end Z
end Go.Ev.Ytddknjmlhbeabaa
