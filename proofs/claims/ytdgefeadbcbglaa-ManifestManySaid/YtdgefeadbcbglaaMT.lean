/- The table of the functions. -/
import Derived.Test.YtdgefeadbcbglaaMF0
import Derived.Test.YtdgefeadbcbglaaMF1
import Derived.Test.YtdgefeadbcbglaaMEv5
import Derived.KernelRfl
namespace Go.Ev.Ytdgefeadbcbglaa
open Go Go.Ev
set_option linter.unusedVariables false
set_option maxRecDepth 100000

theorem bare78:Bare Go.Proofs.Try.prog 78 Extern.MapsClone.clone := ⟨Go.Proofs.Try.f78, Go.Proofs.Try.func78, by kernel_rfl, by kernel_rfl, by kernel_rfl, by kernel_rfl⟩
noncomputable abbrev rhoS (v:Nat->Value) (gl:Kp):Env := JG Go.Proofs.Try.prog [99] v gl
theorem oneS {v:Nat->Value} {gl:Kp} (h:∀ i, (v i).oneCell'=true):BJ (rhoS v gl) := Aax h
variable {B:Nat}
noncomputable def ta0:FA := .mk none none none none none none none (some x7) none none none none none none none none
theorem oa0 {v:Nat->Value} {gl:Kp}:Ij PP (rhoS v gl) B 0 ta0 := Fm AR.no AR.no AR.no AR.no AR.no AR.no AR.no (AR.fn e7) AR.no AR.no AR.no AR.no AR.no AR.no AR.no AR.no
noncomputable def ta1:FA := .mk none none none none none none (some x22) (some x23) (some x24) none (some x26) (some x27) none none (some x30) none
theorem oa1 {v:Nat->Value} {gl:Kp}:Ij PP (rhoS v gl) B 16 ta1 := Fm AR.no AR.no AR.no AR.no AR.no AR.no (AR.fn e22) (AR.fn e23) (AR.fn e24) AR.no (AR.fn e26) (AR.fn e27) AR.no AR.no (AR.fn e30) AR.no
noncomputable def ta2:FA := .mk (some x32) (some x33) (some x34) (some x35) none (some x37) none (some x39) (some x40) (some x41) (some x42) (some x43) (some x44) none none none
theorem oa2 {v:Nat->Value} {gl:Kp}:Ij PP (rhoS v gl) B 32 ta2 := Fm (AR.fn e32) (AR.fn e33) (AR.fn e34) (AR.fn e35) AR.no (AR.fn e37) AR.no (AR.fn e39) (AR.fn e40) (AR.fn e41) (AR.fn e42) (AR.fn e43) (AR.fn e44) AR.no AR.no AR.no
noncomputable def ta3:FA := .mk none (some x49) (some x50) (some x51) (some x52) (some (.prim Ly)) (some x54) (some x55) (some x56) (some x57) (some x58) (some x59) none none none (some x63)
theorem oa3 {v:Nat->Value} {gl:Kp}:Ij PP (rhoS v gl) B 48 ta3 := Fm AR.no (AR.fn e49) (AR.fn e50) (AR.fn e51) (AR.fn e52) (AR.pr (Un (g := 78) (by kernel_rfl) bare78)) (AR.fn e54) (AR.fn e55) (AR.fn e56) (AR.fn e57) (AR.fn e58) (AR.fn e59) AR.no AR.no AR.no (AR.fn e63)
noncomputable def ta4:FA := .mk (some x64) (some x65) (some x66) (some x67) (some x68) (some x69) (some x70) (some x71) (some x72) (some x73) (some x74) none none none none (some x79)
theorem oa4 {v:Nat->Value} {gl:Kp}:Ij PP (rhoS v gl) B 64 ta4 := Fm (AR.fn e64) (AR.fn e65) (AR.fn e66) (AR.fn e67) (AR.fn e68) (AR.fn e69) (AR.fn e70) (AR.fn e71) (AR.fn e72) (AR.fn e73) (AR.fn e74) AR.no AR.no AR.no AR.no (AR.fn e79)
noncomputable def ta5:FA := .mk (some x80) (some x81) none none none (some x85) (some x86) (some x87) (some x88) (some x89) (some x90) (some x91) (some x92) (some x93) (some x94) (some x95)
theorem oa5 {v:Nat->Value} {gl:Kp}:Ij PP (rhoS v gl) B 80 ta5 := Fm (AR.fn e80) (AR.fn e81) AR.no AR.no AR.no (AR.fn e85) (AR.fn e86) (AR.fn e87) (AR.fn e88) (AR.fn e89) (AR.fn e90) (AR.fn e91) (AR.fn e92) (AR.fn e93) (AR.fn e94) (AR.fn e95)
noncomputable def ta6:FA := .mk (some x96) none none (some x99) (some x100) none none (some x103) (some x104) (some x105) (some x106) (some (.prim (I9 ""))) (some (.prim (I9 ""))) (some (.prim (I9 ""))) (some (.prim (I9 ""))) (some (.prim (I9 "")))
theorem oa6 {v:Nat->Value} {gl:Kp}:Ij PP (rhoS v gl) B 96 ta6 := Fm (AR.fn e96) AR.no AR.no (AR.apE (F0.ar e99)) (AR.fn e100) AR.no AR.no (AR.fn e103) (AR.fn e104) (AR.fn e105) (AR.fn e106) (AR.noP _) (AR.noP _) (AR.noP _) (AR.noP _) (AR.noP _)
noncomputable def ta7:FA := .mk (some (.prim (I9 ""))) (some (.prim (I9 ""))) (some x114) (some x115) none none none none none none none none (some x124) (some (.prim (I9 ""))) (some (.prim (I9 ""))) (some (.prim (I9 "")))
theorem oa7 {v:Nat->Value} {gl:Kp}:Ij PP (rhoS v gl) B 112 ta7 := Fm (AR.noP _) (AR.noP _) (AR.fn e114) (AR.fn e115) AR.no AR.no AR.no AR.no AR.no AR.no AR.no AR.no (AR.fn e124) (AR.noP _) (AR.noP _) (AR.noP _)
noncomputable def ta8:FA := .mk (some (.prim (I9 ""))) (some (.prim (I9 ""))) (some x130) (some (.prim (I9 ""))) (some (.prim (I9 ""))) none none none none none none none none none (some x142) (some x143)
theorem oa8 {v:Nat->Value} {gl:Kp}:Ij PP (rhoS v gl) B 128 ta8 := Fm (AR.noP _) (AR.noP _) (AR.fn e130) (AR.noP _) (AR.noP _) AR.no AR.no AR.no AR.no AR.no AR.no AR.no AR.no AR.no (AR.fn e142) (AR.fn e143)
noncomputable def ta9:FA := .mk none none none none none none none none none none none (some x155) none none none none
theorem oa9 {v:Nat->Value} {gl:Kp}:Ij PP (rhoS v gl) B 144 ta9 := Fm AR.no AR.no AR.no AR.no AR.no AR.no AR.no AR.no AR.no AR.no AR.no (AR.fn e155) AR.no AR.no AR.no AR.no
noncomputable def ta10:FA := .mk (some x160) none none none none none none none none none none none none none none none
theorem oa10 {v:Nat->Value} {gl:Kp}:Ij PP (rhoS v gl) B 160 ta10 := Fm (AR.fn e160) AR.no AR.no AR.no AR.no AR.no AR.no AR.no AR.no AR.no AR.no AR.no AR.no AR.no AR.no AR.no
noncomputable def tb0:FB := .mk ta0 ta1 ta2 ta3 ta4 ta5 ta6 ta7 ta8 ta9 ta10 Kr Kr Kr Kr Kr
theorem ob0 {v:Nat->Value} {gl:Kp}:NR PP (rhoS v gl) B 0 tb0 := Zb (oa0) (oa1) (oa2) (oa3) (oa4) (oa5) (oa6) (oa7) (oa8) (oa9) (oa10) Jj Jj Jj Jj Jj
noncomputable def tab:FC := .mk tb0 NN NN NN NN NN NN NN NN NN NN NN NN NN NN NN
theorem tab_ok {v:Nat->Value} {gl:Kp} (B:Nat):JC Go.Proofs.Try.prog (rhoS v gl) B tab := .mkA (Yv (ob0) E8 E8 E8 E8 E8 E8 E8 E8 E8 E8 E8 E8 E8 E8) (WB ⟨x99, by kernel_rfl, F0.ar e99⟩ Zo)
end Go.Ev.Ytdgefeadbcbglaa
