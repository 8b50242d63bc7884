/- The table of the functions. -/
import Derived.Test.YtdgefeadbcbglaaQF0
import Derived.Test.YtdgefeadbcbglaaQF1
import Derived.Test.YtdgefeadbcbglaaQEv5
import Derived.KernelRfl
namespace Go.Ev.Ytdgefeadbcbglaa
open Go Go.Ev
set_option linter.unusedVariables false
set_option maxRecDepth 100000

theorem bare78:Bare Go.Proofs.Try.prog 78 Extern.MapsClone.clone := ⟨Go.Proofs.Try.f78, Go.Proofs.Try.func78, by kernel_rfl, by kernel_rfl, by kernel_rfl, by kernel_rfl⟩
noncomputable abbrev rhoS (v:Nat->Value) (gl:My):Env := LG Go.Proofs.Try.prog [99, 101] v gl
theorem oneS {v:Nat->Value} {gl:My} (h:∀ i, (v i).oneCell'=true):DA (rhoS v gl) := ZN h
variable {B:Nat}
noncomputable def ta0:FA := .mk none none none none (some x4) (some x5) (some x6) none none none none none none none none none
theorem oa0 {v:Nat->Value} {gl:My}:KP PP (rhoS v gl) B 0 ta0 := I0 CR.no CR.no CR.no CR.no (CR.fn e4) (CR.fn e5) (CR.fn e6) CR.no CR.no CR.no CR.no CR.no CR.no CR.no CR.no CR.no
noncomputable def ta1:FA := .mk none none none none none (some x21) (some x22) (some x23) (some x24) (some x25) (some x26) (some x27) (some x28) (some x29) (some x30) (some x31)
theorem oa1 {v:Nat->Value} {gl:My}:KP PP (rhoS v gl) B 16 ta1 := I0 CR.no CR.no CR.no CR.no CR.no (CR.fn e21) (CR.fn e22) (CR.fn e23) (CR.fn e24) (CR.fn e25) (CR.fn e26) (CR.fn e27) (CR.fn e28) (CR.fn e29) (CR.fn e30) (CR.fn e31)
noncomputable def ta2:FA := .mk (some x32) (some x33) (some x34) (some x35) (some x36) (some x37) (some x38) none none none none none none none none none
theorem oa2 {v:Nat->Value} {gl:My}:KP PP (rhoS v gl) B 32 ta2 := I0 (CR.fn e32) (CR.fn e33) (CR.fn e34) (CR.fn e35) (CR.fn e36) (CR.fn e37) (CR.fn e38) CR.no CR.no CR.no CR.no CR.no CR.no CR.no CR.no CR.no
noncomputable def ta3:FA := .mk (some x48) (some x49) (some x50) (some x51) (some x52) (some (.prim Ml)) (some x54) (some x55) (some x56) (some x57) (some x58) (some x59) (some x60) (some x61) (some x62) (some x63)
theorem oa3 {v:Nat->Value} {gl:My}:KP PP (rhoS v gl) B 48 ta3 := I0 (CR.fn e48) (CR.fn e49) (CR.fn e50) (CR.fn e51) (CR.fn e52) (CR.pr (Vs (g := 78) (by kernel_rfl) bare78)) (CR.fn e54) (CR.fn e55) (CR.fn e56) (CR.fn e57) (CR.fn e58) (CR.fn e59) (CR.fn e60) (CR.fn e61) (CR.fn e62) (CR.fn e63)
noncomputable def ta4:FA := .mk (some x64) (some x65) none none none none none none none none none none none none none (some x79)
theorem oa4 {v:Nat->Value} {gl:My}:KP PP (rhoS v gl) B 64 ta4 := I0 (CR.fn e64) (CR.fn e65) CR.no CR.no CR.no CR.no CR.no CR.no CR.no CR.no CR.no CR.no CR.no CR.no CR.no (CR.fn e79)
noncomputable def ta5:FA := .mk (some x80) (some x81) (some x82) (some x83) (some x84) (some x85) (some x86) (some x87) (some x88) none none none none none none (some x95)
theorem oa5 {v:Nat->Value} {gl:My}:KP PP (rhoS v gl) B 80 ta5 := I0 (CR.fn e80) (CR.fn e81) (CR.fn e82) (CR.fn e83) (CR.fn e84) (CR.fn e85) (CR.fn e86) (CR.fn e87) (CR.fn e88) CR.no CR.no CR.no CR.no CR.no CR.no (CR.fn e95)
noncomputable def ta6:FA := .mk none none none (some x99) (some x100) (some x101) (some x102) none none none none none none none none none
theorem oa6 {v:Nat->Value} {gl:My}:KP PP (rhoS v gl) B 96 ta6 := I0 CR.no CR.no CR.no (CR.apE (G5.ar e99)) (CR.fn e100) (CR.apE (G5.ar e101)) (CR.fn e102) CR.no CR.no CR.no CR.no CR.no CR.no CR.no CR.no CR.no
noncomputable def ta7:FA := .mk none none (some x114) (some x115) none none none none none none none none (some x124) (some (.prim (JS ""))) (some (.prim (JS ""))) (some (.prim (JS "")))
theorem oa7 {v:Nat->Value} {gl:My}:KP PP (rhoS v gl) B 112 ta7 := I0 CR.no CR.no (CR.fn e114) (CR.fn e115) CR.no CR.no CR.no CR.no CR.no CR.no CR.no CR.no (CR.fn e124) (CR.noP _) (CR.noP _) (CR.noP _)
noncomputable def ta8:FA := .mk (some (.prim (JS ""))) (some (.prim (JS ""))) (some x130) (some (.prim (JS ""))) (some (.prim (JS ""))) (some x133) (some (.prim (JS ""))) (some (.prim (JS ""))) (some (.prim (JS ""))) (some (.prim (JS ""))) (some (.prim (JS ""))) (some x139) (some (.prim (JS ""))) (some (.prim (JS ""))) none none
theorem oa8 {v:Nat->Value} {gl:My}:KP PP (rhoS v gl) B 128 ta8 := I0 (CR.noP _) (CR.noP _) (CR.fn e130) (CR.noP _) (CR.noP _) (CR.fn e133) (CR.noP _) (CR.noP _) (CR.noP _) (CR.noP _) (CR.noP _) (CR.fn e139) (CR.noP _) (CR.noP _) CR.no CR.no
noncomputable def ta9:FA := .mk none none none none none none none none none none none (some x155) none none none (some x159)
theorem oa9 {v:Nat->Value} {gl:My}:KP PP (rhoS v gl) B 144 ta9 := I0 CR.no CR.no CR.no CR.no CR.no CR.no CR.no CR.no CR.no CR.no CR.no (CR.fn e155) CR.no CR.no CR.no (CR.fn e159)
noncomputable def tb0:FB := .mk ta0 ta1 ta2 ta3 ta4 ta5 ta6 ta7 ta8 ta9 LJ LJ LJ LJ LJ LJ
theorem ob0 {v:Nat->Value} {gl:My}:Pd PP (rhoS v gl) B 0 tb0 := Xv (oa0) (oa1) (oa2) (oa3) (oa4) (oa5) (oa6) (oa7) (oa8) (oa9) Kd Kd Kd Kd Kd Kd
noncomputable def tab:FC := .mk tb0 Ns Ns Ns Ns Ns Ns Ns Ns Ns Ns Ns Ns Ns Ns Ns
theorem tab_ok {v:Nat->Value} {gl:My} (B:Nat):LH Go.Proofs.Try.prog (rhoS v gl) B tab := .mkA (XR (ob0) FZ FZ FZ FZ FZ FZ FZ FZ FZ FZ FZ FZ FZ FZ) (S3 ⟨x99, by kernel_rfl, G5.ar e99⟩ (S3 ⟨x101, by kernel_rfl, G5.ar e101⟩ Y6))
end Go.Ev.Ytdgefeadbcbglaa
