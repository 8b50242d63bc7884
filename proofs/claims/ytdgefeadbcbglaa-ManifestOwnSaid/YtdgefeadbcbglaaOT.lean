/- The table of the functions. -/
import Derived.Test.YtdgefeadbcbglaaOF0
import Derived.Test.YtdgefeadbcbglaaOF1
import Derived.Test.YtdgefeadbcbglaaOEv5
import Derived.KernelRfl
namespace Go.Ev.Ytdgefeadbcbglaa
open Go Go.Ev
set_option linter.unusedVariables false
set_option maxRecDepth 100000

theorem bare78:Bare Go.Proofs.Try.prog 78 Extern.MapsClone.clone := ⟨Go.Proofs.Try.f78, Go.Proofs.Try.func78, by kernel_rfl, by kernel_rfl, by kernel_rfl, by kernel_rfl⟩
noncomputable abbrev rhoS (v:Nat->Value) (gl:Km):Env := JT Go.Proofs.Try.prog [99] v gl
theorem oneS {v:Nat->Value} {gl:Km} (h:∀ i, (v i).oneCell'=true):BK (rhoS v gl) := ZX h
variable {B:Nat}
noncomputable def ta0:FA := .mk none none none none none none none none (some x8) none none none none none none none
theorem oa0 {v:Nat->Value} {gl:Km}:Ic PP (rhoS v gl) B 0 ta0 := Fo AQ.no AQ.no AQ.no AQ.no AQ.no AQ.no AQ.no AQ.no (AQ.fn e8) AQ.no AQ.no AQ.no AQ.no AQ.no AQ.no AQ.no
noncomputable def ta1:FA := .mk none none none none none none (some x22) (some x23) (some x24) none (some x26) (some x27) none none (some x30) none
theorem oa1 {v:Nat->Value} {gl:Km}:Ic PP (rhoS v gl) B 16 ta1 := Fo AQ.no AQ.no AQ.no AQ.no AQ.no AQ.no (AQ.fn e22) (AQ.fn e23) (AQ.fn e24) AQ.no (AQ.fn e26) (AQ.fn e27) AQ.no AQ.no (AQ.fn e30) AQ.no
noncomputable def ta2:FA := .mk (some x32) (some x33) (some x34) (some x35) none (some x37) none (some x39) (some x40) (some x41) (some x42) (some x43) (some x44) none none none
theorem oa2 {v:Nat->Value} {gl:Km}:Ic PP (rhoS v gl) B 32 ta2 := Fo (AQ.fn e32) (AQ.fn e33) (AQ.fn e34) (AQ.fn e35) AQ.no (AQ.fn e37) AQ.no (AQ.fn e39) (AQ.fn e40) (AQ.fn e41) (AQ.fn e42) (AQ.fn e43) (AQ.fn e44) AQ.no AQ.no AQ.no
noncomputable def ta3:FA := .mk none (some x49) (some x50) (some x51) (some x52) (some (.prim KF)) (some x54) (some x55) (some x56) (some x57) (some x58) (some x59) none none none (some x63)
theorem oa3 {v:Nat->Value} {gl:Km}:Ic PP (rhoS v gl) B 48 ta3 := Fo AQ.no (AQ.fn e49) (AQ.fn e50) (AQ.fn e51) (AQ.fn e52) (AQ.pr (Vi (g := 78) (by kernel_rfl) bare78)) (AQ.fn e54) (AQ.fn e55) (AQ.fn e56) (AQ.fn e57) (AQ.fn e58) (AQ.fn e59) AQ.no AQ.no AQ.no (AQ.fn e63)
noncomputable def ta4:FA := .mk (some x64) (some x65) (some x66) (some x67) (some x68) (some x69) (some x70) (some x71) (some x72) (some x73) (some x74) none none none none (some x79)
theorem oa4 {v:Nat->Value} {gl:Km}:Ic PP (rhoS v gl) B 64 ta4 := Fo (AQ.fn e64) (AQ.fn e65) (AQ.fn e66) (AQ.fn e67) (AQ.fn e68) (AQ.fn e69) (AQ.fn e70) (AQ.fn e71) (AQ.fn e72) (AQ.fn e73) (AQ.fn e74) AQ.no AQ.no AQ.no AQ.no (AQ.fn e79)
noncomputable def ta5:FA := .mk (some x80) (some x81) none none none (some x85) (some x86) (some x87) (some x88) (some x89) (some x90) (some x91) (some x92) (some x93) (some x94) (some x95)
theorem oa5 {v:Nat->Value} {gl:Km}:Ic PP (rhoS v gl) B 80 ta5 := Fo (AQ.fn e80) (AQ.fn e81) AQ.no AQ.no AQ.no (AQ.fn e85) (AQ.fn e86) (AQ.fn e87) (AQ.fn e88) (AQ.fn e89) (AQ.fn e90) (AQ.fn e91) (AQ.fn e92) (AQ.fn e93) (AQ.fn e94) (AQ.fn e95)
noncomputable def ta6:FA := .mk (some x96) none none (some x99) (some x100) none none (some x103) (some x104) (some x105) (some x106) (some (.prim (I5 ""))) (some (.prim (I5 ""))) (some (.prim (I5 ""))) (some (.prim (I5 ""))) (some (.prim (I5 "")))
theorem oa6 {v:Nat->Value} {gl:Km}:Ic PP (rhoS v gl) B 96 ta6 := Fo (AQ.fn e96) AQ.no AQ.no (AQ.apE (EQ.ar e99)) (AQ.fn e100) AQ.no AQ.no (AQ.fn e103) (AQ.fn e104) (AQ.fn e105) (AQ.fn e106) (AQ.noP _) (AQ.noP _) (AQ.noP _) (AQ.noP _) (AQ.noP _)
noncomputable def ta7:FA := .mk (some (.prim (I5 ""))) (some (.prim (I5 ""))) (some x114) (some x115) none none none none none none none none (some x124) (some (.prim (I5 ""))) (some (.prim (I5 ""))) (some (.prim (I5 "")))
theorem oa7 {v:Nat->Value} {gl:Km}:Ic PP (rhoS v gl) B 112 ta7 := Fo (AQ.noP _) (AQ.noP _) (AQ.fn e114) (AQ.fn e115) AQ.no AQ.no AQ.no AQ.no AQ.no AQ.no AQ.no AQ.no (AQ.fn e124) (AQ.noP _) (AQ.noP _) (AQ.noP _)
noncomputable def ta8:FA := .mk (some (.prim (I5 ""))) (some (.prim (I5 ""))) (some x130) (some (.prim (I5 ""))) (some (.prim (I5 ""))) none none none none none none none none none (some x142) (some x143)
theorem oa8 {v:Nat->Value} {gl:Km}:Ic PP (rhoS v gl) B 128 ta8 := Fo (AQ.noP _) (AQ.noP _) (AQ.fn e130) (AQ.noP _) (AQ.noP _) AQ.no AQ.no AQ.no AQ.no AQ.no AQ.no AQ.no AQ.no AQ.no (AQ.fn e142) (AQ.fn e143)
noncomputable def ta9:FA := .mk none none none none none none none none none none none (some x155) none none none none
theorem oa9 {v:Nat->Value} {gl:Km}:Ic PP (rhoS v gl) B 144 ta9 := Fo AQ.no AQ.no AQ.no AQ.no AQ.no AQ.no AQ.no AQ.no AQ.no AQ.no AQ.no (AQ.fn e155) AQ.no AQ.no AQ.no AQ.no
noncomputable def ta10:FA := .mk (some x160) none none none none none none none none none none none none none none none
theorem oa10 {v:Nat->Value} {gl:Km}:Ic PP (rhoS v gl) B 160 ta10 := Fo (AQ.fn e160) AQ.no AQ.no AQ.no AQ.no AQ.no AQ.no AQ.no AQ.no AQ.no AQ.no AQ.no AQ.no AQ.no AQ.no AQ.no
noncomputable def tb0:FB := .mk ta0 ta1 ta2 ta3 ta4 ta5 ta6 ta7 ta8 ta9 ta10 Kg Kg Kg Kg Kg
theorem ob0 {v:Nat->Value} {gl:Km}:NK PP (rhoS v gl) B 0 tb0 := YY (oa0) (oa1) (oa2) (oa3) (oa4) (oa5) (oa6) (oa7) (oa8) (oa9) (oa10) J9 J9 J9 J9 J9
noncomputable def tab:FC := .mk tb0 Nw Nw Nw Nw Nw Nw Nw Nw Nw Nw Nw Nw Nw Nw Nw
theorem tab_ok {v:Nat->Value} {gl:Km} (B:Nat):JJ Go.Proofs.Try.prog (rhoS v gl) B tab := .mkA (YE (ob0) E4 E4 E4 E4 E4 E4 E4 E4 E4 E4 E4 E4 E4 E4) (Wz ⟨x99, by kernel_rfl, EQ.ar e99⟩ Z1)
end Go.Ev.Ytdgefeadbcbglaa
