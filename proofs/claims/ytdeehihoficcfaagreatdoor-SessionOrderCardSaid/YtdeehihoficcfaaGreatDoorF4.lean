/- The functions of this program as they are run, 4. -/
import Derived.Test.YtdeehihoficcfaaGreatDoorEv4
import Derived.Test.YtdeehihoficcfaaGreatDoorProg
import Derived.KernelRfl
namespace Go.Ev.YtdeehihoficcfaaGreatDoor
open Go Go.Ev
set_option linter.unusedVariables false
set_option maxRecDepth 100000
noncomputable def x506 : Ent := .code (fun l k => unK l fun a0 l => nlK l <| k (.mk (.mk a0 U U U) Q0 Q0 Q0 Q0 Q0 Q0 Q0)) (fun c t h n => g0 t fun z1 => v_lnS z1 fun z2 => b_lss z2 (.int .i64 1) fun z3 => vif z3 (w1 t (.int .i32 65533) fun t => w2 t (.int .i64 0) fun t => .ok .ret t h n) <| v_idS z1 (.int .i64 0) fun z4 => .fail "an operation that is not taken") (fun t h n => g1 t fun a0 => g2 t fun a1 => .rv (.tup [a0, a1]) h n)
theorem e506 : EntOf Go.Proofs.Tryz.prog 506 x506 := .mk [(⟨.d0, .d0⟩, ⟨.d0, .d0⟩), (⟨.d0, .d2⟩, ⟨.d0, .d1⟩), (⟨.d0, .d3⟩, ⟨.d0, .d2⟩)] (by kernel_rfl) (by kernel_rfl)
noncomputable def x511 : Ent := .code (fun l k => unK l fun a0 l => unK l fun a1 l => nlK l <| k (.mk (.mk a0 a1 U U) Q0 Q0 Q0 Q0 Q0 Q0 Q0)) (fun c t h n => g1 t fun z1 => v_cvi .u64 z1 fun z2 => b_and z2 (.int .u64 31) fun z3 => g0 t fun z4 => b_shl z4 z3 fun z5 => b_sub (.int .u64 32) z3 fun z6 => b_shr z4 z6 fun z7 => b_or z5 z7 fun z8 => w2 t z8 fun t => .ok .ret t h n) (fun t h n => g2 t fun a0 => .rv a0 h n)
theorem e511 : EntOf Go.Proofs.Tryz.prog 511 x511 := .mk [(⟨.d0, .d0⟩, ⟨.d0, .d0⟩), (⟨.d0, .d1⟩, ⟨.d0, .d1⟩), (⟨.d0, .d4⟩, ⟨.d0, .d2⟩)] (by kernel_rfl) (by kernel_rfl)
end Go.Ev.YtdeehihoficcfaaGreatDoor
