/- The table of the functions. -/
import Derived.Test.YtdgefeadbcbglaaRF0
import Derived.Test.YtdgefeadbcbglaaREv5
import Derived.KernelRfl
namespace Go.Ev.Ytdgefeadbcbglaa
open Go Go.Ev
set_option linter.unusedVariables false
set_option maxRecDepth 100000

theorem bare78:Bare Go.Proofs.Try.prog 78 Extern.MapsClone.clone := ⟨Go.Proofs.Try.f78, Go.Proofs.Try.func78, by kernel_rfl, by kernel_rfl, by kernel_rfl, by kernel_rfl⟩
noncomputable abbrev rhoS (v:Nat->Value) (gl:MY):Env := Mi Go.Proofs.Try.prog [99, 101] v gl
theorem oneS {v:Nat->Value} {gl:MY} (h:∀ i, (v i).oneCell'=true):DK (rhoS v gl) := Z6 h
variable {B:Nat}
noncomputable def ta0:FA := .mk none none none none none none (some x6) none none none none none none none none none
theorem oa0 {v:Nat->Value} {gl:MY}:KR PP (rhoS v gl) B 0 ta0 := Ir Dj.no Dj.no Dj.no Dj.no Dj.no Dj.no (Dj.fn e6) Dj.no Dj.no Dj.no Dj.no Dj.no Dj.no Dj.no Dj.no Dj.no
noncomputable def ta1:FA := .mk none none none none none none (some x22) (some x23) (some x24) (some x25) (some x26) (some x27) (some x28) (some x29) (some x30) (some x31)
theorem oa1 {v:Nat->Value} {gl:MY}:KR PP (rhoS v gl) B 16 ta1 := Ir Dj.no Dj.no Dj.no Dj.no Dj.no Dj.no (Dj.fn e22) (Dj.fn e23) (Dj.fn e24) (Dj.fn e25) (Dj.fn e26) (Dj.fn e27) (Dj.fn e28) (Dj.fn e29) (Dj.fn e30) (Dj.fn e31)
noncomputable def ta2:FA := .mk (some x32) (some x33) (some x34) (some x35) (some x36) (some x37) (some x38) none none none none none none none none none
theorem oa2 {v:Nat->Value} {gl:MY}:KR PP (rhoS v gl) B 32 ta2 := Ir (Dj.fn e32) (Dj.fn e33) (Dj.fn e34) (Dj.fn e35) (Dj.fn e36) (Dj.fn e37) (Dj.fn e38) Dj.no Dj.no Dj.no Dj.no Dj.no Dj.no Dj.no Dj.no Dj.no
noncomputable def ta3:FA := .mk none (some x49) (some x50) (some x51) (some x52) (some (.prim MU)) (some x54) (some x55) (some x56) (some x57) (some x58) (some x59) (some x60) (some x61) (some x62) (some x63)
theorem oa3 {v:Nat->Value} {gl:MY}:KR PP (rhoS v gl) B 48 ta3 := Ir Dj.no (Dj.fn e49) (Dj.fn e50) (Dj.fn e51) (Dj.fn e52) (Dj.pr (W1 (g := 78) (by kernel_rfl) bare78)) (Dj.fn e54) (Dj.fn e55) (Dj.fn e56) (Dj.fn e57) (Dj.fn e58) (Dj.fn e59) (Dj.fn e60) (Dj.fn e61) (Dj.fn e62) (Dj.fn e63)
noncomputable def ta4:FA := .mk (some x64) (some x65) none none none none none none none none none none none none none (some x79)
theorem oa4 {v:Nat->Value} {gl:MY}:KR PP (rhoS v gl) B 64 ta4 := Ir (Dj.fn e64) (Dj.fn e65) Dj.no Dj.no Dj.no Dj.no Dj.no Dj.no Dj.no Dj.no Dj.no Dj.no Dj.no Dj.no Dj.no (Dj.fn e79)
noncomputable def ta5:FA := .mk (some x80) (some x81) (some x82) (some x83) (some x84) (some x85) (some x86) (some x87) (some x88) none none none none none none (some x95)
theorem oa5 {v:Nat->Value} {gl:MY}:KR PP (rhoS v gl) B 80 ta5 := Ir (Dj.fn e80) (Dj.fn e81) (Dj.fn e82) (Dj.fn e83) (Dj.fn e84) (Dj.fn e85) (Dj.fn e86) (Dj.fn e87) (Dj.fn e88) Dj.no Dj.no Dj.no Dj.no Dj.no Dj.no (Dj.fn e95)
noncomputable def ta6:FA := .mk none none none (some x99) (some x100) (some x101) (some x102) none none none none none none none none none
theorem oa6 {v:Nat->Value} {gl:MY}:KR PP (rhoS v gl) B 96 ta6 := Ir Dj.no Dj.no Dj.no (Dj.apE (Gl.ar e99)) (Dj.fn e100) (Dj.apE (Gl.ar e101)) (Dj.fn e102) Dj.no Dj.no Dj.no Dj.no Dj.no Dj.no Dj.no Dj.no Dj.no
noncomputable def ta7:FA := .mk none none (some x114) (some x115) none none none none none none none none (some x124) (some (.prim (KL ""))) (some (.prim (KL ""))) (some (.prim (KL "")))
theorem oa7 {v:Nat->Value} {gl:MY}:KR PP (rhoS v gl) B 112 ta7 := Ir Dj.no Dj.no (Dj.fn e114) (Dj.fn e115) Dj.no Dj.no Dj.no Dj.no Dj.no Dj.no Dj.no Dj.no (Dj.fn e124) (Dj.noP _) (Dj.noP _) (Dj.noP _)
noncomputable def ta8:FA := .mk (some (.prim (KL ""))) (some (.prim (KL ""))) (some x130) (some (.prim (KL ""))) (some (.prim (KL ""))) (some x133) (some (.prim (KL ""))) (some (.prim (KL ""))) (some (.prim (KL ""))) (some (.prim (KL ""))) (some (.prim (KL ""))) (some x139) (some (.prim (KL ""))) (some (.prim (KL ""))) none none
theorem oa8 {v:Nat->Value} {gl:MY}:KR PP (rhoS v gl) B 128 ta8 := Ir (Dj.noP _) (Dj.noP _) (Dj.fn e130) (Dj.noP _) (Dj.noP _) (Dj.fn e133) (Dj.noP _) (Dj.noP _) (Dj.noP _) (Dj.noP _) (Dj.noP _) (Dj.fn e139) (Dj.noP _) (Dj.noP _) Dj.no Dj.no
noncomputable def ta9:FA := .mk none none none none none none none none none none none (some x155) none none none (some x159)
theorem oa9 {v:Nat->Value} {gl:MY}:KR PP (rhoS v gl) B 144 ta9 := Ir Dj.no Dj.no Dj.no Dj.no Dj.no Dj.no Dj.no Dj.no Dj.no Dj.no Dj.no (Dj.fn e155) Dj.no Dj.no Dj.no (Dj.fn e159)
noncomputable def tb0:FB := .mk ta0 ta1 ta2 ta3 ta4 ta5 ta6 ta7 ta8 ta9 Ml Ml Ml Ml Ml Ml
theorem ob0 {v:Nat->Value} {gl:MY}:Q5 PP (rhoS v gl) B 0 tb0 := Yt (oa0) (oa1) (oa2) (oa3) (oa4) (oa5) (oa6) (oa7) (oa8) (oa9) KJ KJ KJ KJ KJ KJ
noncomputable def tab:FC := .mk tb0 P2 P2 P2 P2 P2 P2 P2 P2 P2 P2 P2 P2 P2 P2 P2
theorem tab_ok {v:Nat->Value} {gl:MY} (B:Nat):M7 Go.Proofs.Try.prog (rhoS v gl) B tab := .mkA (YQ (ob0) Gi Gi Gi Gi Gi Gi Gi Gi Gi Gi Gi Gi Gi Gi) (T5 ⟨x99, by kernel_rfl, Gl.ar e99⟩ (T5 ⟨x101, by kernel_rfl, Gl.ar e101⟩ YK))
end Go.Ev.Ytdgefeadbcbglaa
