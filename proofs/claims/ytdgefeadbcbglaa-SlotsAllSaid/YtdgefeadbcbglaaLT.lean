/- The table of the functions. -/
import Derived.Test.YtdgefeadbcbglaaLF0
import Derived.Test.YtdgefeadbcbglaaLEv5
import Derived.KernelRfl
namespace Go.Ev.Ytdgefeadbcbglaa
open Go Go.Ev
set_option linter.unusedVariables false
set_option maxRecDepth 100000

theorem bare78:Bare Go.Proofs.Try.prog 78 Extern.MapsClone.clone := ⟨Go.Proofs.Try.f78, Go.Proofs.Try.func78, by kernel_rfl, by kernel_rfl, by kernel_rfl, by kernel_rfl⟩
noncomputable abbrev rhoS (v:Nat->Value) (gl:L9):Env := JI Go.Proofs.Try.prog [99, 101] v gl
theorem oneS {v:Nat->Value} {gl:L9} (h:∀ i, (v i).oneCell'=true):Bd (rhoS v gl) := Ab5 h
variable {B:Nat}
noncomputable def ta0:FA := .mk none none none none none (some x5) none none none none none none none none none none
theorem oa0 {v:Nat->Value} {gl:L9}:J4 PP (rhoS v gl) B 0 ta0 := FT AL.no AL.no AL.no AL.no AL.no (AL.fn e5) AL.no AL.no AL.no AL.no AL.no AL.no AL.no AL.no AL.no AL.no
noncomputable def ta1:FA := .mk none none none none none none (some x22) (some x23) (some x24) (some x25) (some x26) (some x27) none (some x29) (some x30) (some x31)
theorem oa1 {v:Nat->Value} {gl:L9}:J4 PP (rhoS v gl) B 16 ta1 := FT AL.no AL.no AL.no AL.no AL.no AL.no (AL.fn e22) (AL.fn e23) (AL.fn e24) (AL.fn e25) (AL.fn e26) (AL.fn e27) AL.no (AL.fn e29) (AL.fn e30) (AL.fn e31)
noncomputable def ta2:FA := .mk (some x32) (some x33) (some x34) (some x35) (some x36) (some x37) none none none none none none none none none none
theorem oa2 {v:Nat->Value} {gl:L9}:J4 PP (rhoS v gl) B 32 ta2 := FT (AL.fn e32) (AL.fn e33) (AL.fn e34) (AL.fn e35) (AL.fn e36) (AL.fn e37) AL.no AL.no AL.no AL.no AL.no AL.no AL.no AL.no AL.no AL.no
noncomputable def ta3:FA := .mk none (some x49) (some x50) (some x51) (some x52) (some (.prim Lb)) (some x54) (some x55) (some x56) (some x57) (some x58) (some x59) (some x60) (some x61) (some x62) (some x63)
theorem oa3 {v:Nat->Value} {gl:L9}:J4 PP (rhoS v gl) B 48 ta3 := FT AL.no (AL.fn e49) (AL.fn e50) (AL.fn e51) (AL.fn e52) (AL.pr (UI (g := 78) (by kernel_rfl) bare78)) (AL.fn e54) (AL.fn e55) (AL.fn e56) (AL.fn e57) (AL.fn e58) (AL.fn e59) (AL.fn e60) (AL.fn e61) (AL.fn e62) (AL.fn e63)
noncomputable def ta4:FA := .mk (some x64) (some x65) none none none none none none none none none none none none none (some x79)
theorem oa4 {v:Nat->Value} {gl:L9}:J4 PP (rhoS v gl) B 64 ta4 := FT (AL.fn e64) (AL.fn e65) AL.no AL.no AL.no AL.no AL.no AL.no AL.no AL.no AL.no AL.no AL.no AL.no AL.no (AL.fn e79)
noncomputable def ta5:FA := .mk (some x80) (some x81) (some x82) (some x83) (some x84) (some x85) (some x86) (some x87) (some x88) none none none none none none (some x95)
theorem oa5 {v:Nat->Value} {gl:L9}:J4 PP (rhoS v gl) B 80 ta5 := FT (AL.fn e80) (AL.fn e81) (AL.fn e82) (AL.fn e83) (AL.fn e84) (AL.fn e85) (AL.fn e86) (AL.fn e87) (AL.fn e88) AL.no AL.no AL.no AL.no AL.no AL.no (AL.fn e95)
noncomputable def ta6:FA := .mk none none none (some x99) (some x100) (some x101) (some x102) none none none none none none none none none
theorem oa6 {v:Nat->Value} {gl:L9}:J4 PP (rhoS v gl) B 96 ta6 := FT AL.no AL.no AL.no (AL.apE (DV.ar e99)) (AL.fn e100) (AL.apE (DV.ar e101)) (AL.fn e102) AL.no AL.no AL.no AL.no AL.no AL.no AL.no AL.no AL.no
noncomputable def ta7:FA := .mk none none (some x114) (some x115) none none none none none none none none (some x124) (some (.prim (I2 ""))) (some (.prim (I2 ""))) (some (.prim (I2 "")))
theorem oa7 {v:Nat->Value} {gl:L9}:J4 PP (rhoS v gl) B 112 ta7 := FT AL.no AL.no (AL.fn e114) (AL.fn e115) AL.no AL.no AL.no AL.no AL.no AL.no AL.no AL.no (AL.fn e124) (AL.noP _) (AL.noP _) (AL.noP _)
noncomputable def ta8:FA := .mk (some (.prim (I2 ""))) (some (.prim (I2 ""))) (some x130) (some (.prim (I2 ""))) (some (.prim (I2 ""))) (some x133) (some (.prim (I2 ""))) (some (.prim (I2 ""))) (some (.prim (I2 ""))) (some (.prim (I2 ""))) (some (.prim (I2 ""))) (some x139) (some (.prim (I2 ""))) (some (.prim (I2 ""))) none none
theorem oa8 {v:Nat->Value} {gl:L9}:J4 PP (rhoS v gl) B 128 ta8 := FT (AL.noP _) (AL.noP _) (AL.fn e130) (AL.noP _) (AL.noP _) (AL.fn e133) (AL.noP _) (AL.noP _) (AL.noP _) (AL.noP _) (AL.noP _) (AL.fn e139) (AL.noP _) (AL.noP _) AL.no AL.no
noncomputable def ta9:FA := .mk none none none none none none none none none none none (some x155) none none none (some x159)
theorem oa9 {v:Nat->Value} {gl:L9}:J4 PP (rhoS v gl) B 144 ta9 := FT AL.no AL.no AL.no AL.no AL.no AL.no AL.no AL.no AL.no AL.no AL.no (AL.fn e155) AL.no AL.no AL.no (AL.fn e159)
noncomputable def tb0:FB := .mk ta0 ta1 ta2 ta3 ta4 ta5 ta6 ta7 ta8 ta9 JR JR JR JR JR JR
theorem ob0 {v:Nat->Value} {gl:L9}:Nu PP (rhoS v gl) B 0 tb0 := XN (oa0) (oa1) (oa2) (oa3) (oa4) (oa5) (oa6) (oa7) (oa8) (oa9) I8 I8 I8 I8 I8 I8
noncomputable def tab:FC := .mk tb0 N2 N2 N2 N2 N2 N2 N2 N2 N2 N2 N2 N2 N2 N2 N2
theorem tab_ok {v:Nat->Value} {gl:L9} (B:Nat):JD Go.Proofs.Try.prog (rhoS v gl) B tab := .mkA (XM (ob0) DT DT DT DT DT DT DT DT DT DT DT DT DT DT) (RH ⟨x99, by kernel_rfl, DV.ar e99⟩ (RH ⟨x101, by kernel_rfl, DV.ar e101⟩ Y7))
end Go.Ev.Ytdgefeadbcbglaa
