/- The table of the functions. -/
import Derived.Test.YtdgefeadbcbglaaDoorMF0
import Derived.Test.YtdgefeadbcbglaaDoorMF1
import Derived.Test.YtdgefeadbcbglaaDoorMEv5
import Derived.KernelRfl
namespace Go.Ev.YtdgefeadbcbglaaDoor
open Go Go.Ev
set_option linter.unusedVariables false
set_option maxRecDepth 100000

theorem bare86:Bare Go.Proofs.Tryd.prog 86 Extern.MapsClone.clone := ⟨Go.Proofs.Tryd.f86, Go.Proofs.Tryd.func86, by kernel_rfl, by kernel_rfl, by kernel_rfl, by kernel_rfl⟩
theorem bare138:Bare Go.Proofs.Tryd.prog 138 Extern.BytealgCount.count := ⟨Go.Proofs.Tryd.f138, Go.Proofs.Tryd.func138, by kernel_rfl, by kernel_rfl, by kernel_rfl, by kernel_rfl⟩
theorem bare139:Bare Go.Proofs.Tryd.prog 139 Extern.BytealgIndexByte.indexByte := ⟨Go.Proofs.Tryd.f139, Go.Proofs.Tryd.func139, by kernel_rfl, by kernel_rfl, by kernel_rfl, by kernel_rfl⟩
noncomputable abbrev rhoS (v:Nat->Value) (gl:L4):Env := KD Go.Proofs.Tryd.prog [] v gl
theorem oneS {v:Nat->Value} {gl:L4} (h:∀ i, (v i).oneCell'=true):Bo (rhoS v gl) := Zm h
variable {B:Nat}
noncomputable def ta0:FA := .mk none none none (some x3) none none none (some x7) (some x8) (some x9) (some x10) (some x11) (some x12) (some x13) (some x14) none
theorem oa0 {v:Nat->Value} {gl:L4}:IL PP (rhoS v gl) B 0 ta0 := FO AX.no AX.no AX.no (AX.fn e3) AX.no AX.no AX.no (AX.fn e7) (AX.fn e8) (AX.fn e9) (AX.fn e10) (AX.fn e11) (AX.fn e12) (AX.fn e13) (AX.fn e14) AX.no
noncomputable def ta1:FA := .mk none none none none none none none none none none none none none none none none
theorem oa1 {v:Nat->Value} {gl:L4}:IL PP (rhoS v gl) B 16 ta1 := FO AX.no AX.no AX.no AX.no AX.no AX.no AX.no AX.no AX.no AX.no AX.no AX.no AX.no AX.no AX.no AX.no
noncomputable def ta2:FA := .mk none (some x33) (some x34) (some x35) (some x36) none none none none none none none none none none none
theorem oa2 {v:Nat->Value} {gl:L4}:IL PP (rhoS v gl) B 32 ta2 := FO AX.no (AX.fn e33) (AX.fn e34) (AX.fn e35) (AX.fn e36) AX.no AX.no AX.no AX.no AX.no AX.no AX.no AX.no AX.no AX.no AX.no
noncomputable def ta3:FA := .mk none none none none none none none none none (some x57) (some x58) (some x59) (some x60) (some x61) (some x62) (some x63)
theorem oa3 {v:Nat->Value} {gl:L4}:IL PP (rhoS v gl) B 48 ta3 := FO AX.no AX.no AX.no AX.no AX.no AX.no AX.no AX.no AX.no (AX.fn e57) (AX.fn e58) (AX.fn e59) (AX.fn e60) (AX.fn e61) (AX.fn e62) (AX.fn e63)
noncomputable def ta4:FA := .mk none none none none none none none none none none none none none (some x77) (some x78) (some x79)
theorem oa4 {v:Nat->Value} {gl:L4}:IL PP (rhoS v gl) B 64 ta4 := FO AX.no AX.no AX.no AX.no AX.no AX.no AX.no AX.no AX.no AX.no AX.no AX.no AX.no (AX.fn e77) (AX.fn e78) (AX.fn e79)
noncomputable def ta5:FA := .mk (some x80) (some x81) (some x82) none none none none none none none none none none (some x93) (some x94) (some x95)
theorem oa5 {v:Nat->Value} {gl:L4}:IL PP (rhoS v gl) B 80 ta5 := FO (AX.fn e80) (AX.fn e81) (AX.fn e82) AX.no AX.no AX.no AX.no AX.no AX.no AX.no AX.no AX.no AX.no (AX.fn e93) (AX.fn e94) (AX.fn e95)
noncomputable def ta6:FA := .mk (some x96) (some x97) (some x98) (some x99) (some x100) none none none none none none none none (some x109) (some x110) (some x111)
theorem oa6 {v:Nat->Value} {gl:L4}:IL PP (rhoS v gl) B 96 ta6 := FO (AX.fn e96) (AX.fn e97) (AX.fn e98) (AX.fn e99) (AX.fn e100) AX.no AX.no AX.no AX.no AX.no AX.no AX.no AX.no (AX.fn e109) (AX.fn e110) (AX.fn e111)
noncomputable def ta7:FA := .mk (some x112) (some x113) (some x114) none none none none none (some x120) (some x121) (some x122) (some x123) (some x124) (some x125) none none
theorem oa7 {v:Nat->Value} {gl:L4}:IL PP (rhoS v gl) B 112 ta7 := FO (AX.fn e112) (AX.fn e113) (AX.fn e114) AX.no AX.no AX.no AX.no AX.no (AX.fn e120) (AX.fn e121) (AX.fn e122) (AX.fn e123) (AX.fn e124) (AX.fn e125) AX.no AX.no
noncomputable def ta8:FA := .mk none none none none none none none none (some x136) (some x137) (some (.prim CP)) (some (.prim CH)) (some (.prim (Yk ""))) (some x141) (some x142) none
theorem oa8 {v:Nat->Value} {gl:L4}:IL PP (rhoS v gl) B 128 ta8 := FO AX.no AX.no AX.no AX.no AX.no AX.no AX.no AX.no (AX.fn e136) (AX.fn e137) (AX.pr (@KP Go.Proofs.Tryd.prog (rhoS v gl) B 138 bare138)) (AX.pr (@I8 Go.Proofs.Tryd.prog (rhoS v gl) B 139 bare139)) (AX.noP _) (AX.fn e141) (AX.fn e142) AX.no
noncomputable def ta9:FA := .mk none none none none none (some x149) (some x150) none none none none none none none none none
theorem oa9 {v:Nat->Value} {gl:L4}:IL PP (rhoS v gl) B 144 ta9 := FO AX.no AX.no AX.no AX.no AX.no (AX.fn e149) (AX.fn e150) AX.no AX.no AX.no AX.no AX.no AX.no AX.no AX.no AX.no
noncomputable def tb0:FB := .mk ta0 ta1 ta2 ta3 ta4 ta5 ta6 ta7 ta8 ta9 JJ JJ JJ JJ JJ JJ
theorem ob0 {v:Nat->Value} {gl:L4}:Nv PP (rhoS v gl) B 0 tb0 := Xa (oa0) (oa1) (oa2) (oa3) (oa4) (oa5) (oa6) (oa7) (oa8) (oa9) I6 I6 I6 I6 I6 I6
noncomputable def tab:FC := .mk tb0 LB LB LB LB LB LB LB LB LB LB LB LB LB LB LB
theorem tab_ok {v:Nat->Value} {gl:L4} (B:Nat):Jo Go.Proofs.Tryd.prog (rhoS v gl) B tab := .mkA (WC (ob0) DW DW DW DW DW DW DW DW DW DW DW DW DW DW) Xm
end Go.Ev.YtdgefeadbcbglaaDoor
