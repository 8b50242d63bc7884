/- The table of the functions. -/
import Derived.Test.YtdgefeadbcbglaaAF0
import Derived.Test.YtdgefeadbcbglaaAEv6
import Derived.Test.YtdgefeadbcbglaaAS
import Derived.KernelRfl
namespace Go.Ev.Ytdgefeadbcbglaa
open Go Go.Ev
set_option linter.unusedVariables false
set_option maxRecDepth 100000

theorem bare78:Bare Go.Proofs.Try.prog 78 Extern.MapsClone.clone := ⟨Go.Proofs.Try.f78, Go.Proofs.Try.func78, by kernel_rfl, by kernel_rfl, by kernel_rfl, by kernel_rfl⟩
noncomputable abbrev rhoS (v:Nat->Value) (gl:JN):Env := KP Go.Proofs.Try.prog [97] v gl
theorem oneS {v:Nat->Value} {gl:JN} (h:∀ i, (v i).oneCell'=true):B4 (rhoS v gl) := Abe h
variable {B:Nat}
namespace Z
noncomputable def ta0:FA := .mk none none none (some x3) none none none none none (some x9) (some x10) (some x11) (some x12) (some x13) (some x14) (some x15)
theorem oa0 {gl:JN}:Io PP (rhoS (fun _ => .bool true) gl) B 0 ta0 := DL Aw.no Aw.no Aw.no (Aw.fn e3) Aw.no Aw.no Aw.no Aw.no Aw.no (Aw.fn e9) (Aw.fn e10) (Aw.fn e11) (Aw.fn e12) (Aw.fn e13) (Aw.fn e14) (Aw.fn e15)
noncomputable def ta1:FA := .mk (some x16) (some x17) (some x18) (some x19) (some x20) none none none none none none none none none none none
theorem oa1 {gl:JN}:Io PP (rhoS (fun _ => .bool true) gl) B 16 ta1 := DL (Aw.fn e16) (Aw.fn e17) (Aw.fn e18) (Aw.fn e19) (Aw.fn e20) Aw.no Aw.no Aw.no Aw.no Aw.no Aw.no Aw.no Aw.no Aw.no Aw.no Aw.no
noncomputable def ta2:FA := .mk none none none none none none none none none none none none none (some x45) (some x46) (some x47)
theorem oa2 {gl:JN}:Io PP (rhoS (fun _ => .bool true) gl) B 32 ta2 := DL Aw.no Aw.no Aw.no Aw.no Aw.no Aw.no Aw.no Aw.no Aw.no Aw.no Aw.no Aw.no Aw.no (Aw.fn e45) (Aw.fn e46) (Aw.fn e47)
noncomputable def ta3:FA := .mk none none none none none none none none none none none none none none none none
theorem oa3 {gl:JN}:Io PP (rhoS (fun _ => .bool true) gl) B 48 ta3 := DL Aw.no Aw.no Aw.no Aw.no Aw.no Aw.no Aw.no Aw.no Aw.no Aw.no Aw.no Aw.no Aw.no Aw.no Aw.no Aw.no
noncomputable def ta4:FA := .mk none none none none none none none none none none none (some x75) (some (.prim (GR 47))) (some x77) none none
theorem oa4 {gl:JN}:Io PP (rhoS (fun _ => .bool true) gl) B 64 ta4 := DL Aw.no Aw.no Aw.no Aw.no Aw.no Aw.no Aw.no Aw.no Aw.no Aw.no Aw.no (Aw.fn e75) (Aw.pr (@OD Go.Proofs.Try.prog (rhoS (fun _ => .bool true) gl) B 76 47 Go.Proofs.Try.f76 Go.Proofs.Try.f47 86 32 3 Go.Proofs.Try.func76 (by kernel_rfl) (by kernel_rfl) sortf76 sortn76 Go.Proofs.Try.func47 (by kernel_rfl) (by kernel_rfl) cmp47 Go.Proofs.Try.underlying86 (by kernel_rfl))) (Aw.fn e77) Aw.no Aw.no
noncomputable def ta5:FA := .mk none none none none none none none none none none none none none none none none
theorem oa5 {gl:JN}:Io PP (rhoS (fun _ => .bool true) gl) B 80 ta5 := DL Aw.no Aw.no Aw.no Aw.no Aw.no Aw.no Aw.no Aw.no Aw.no Aw.no Aw.no Aw.no Aw.no Aw.no Aw.no Aw.no
noncomputable def ta6:FA := .mk none (some x97) none none none none none none none none none none none none none none
theorem oa6 {gl:JN}:Io PP (rhoS (fun _ => .bool true) gl) B 96 ta6 := DL Aw.no (Aw.apE (DV.ar e97)) Aw.no Aw.no Aw.no Aw.no Aw.no Aw.no Aw.no Aw.no Aw.no Aw.no Aw.no Aw.no Aw.no Aw.no
noncomputable def tb0:FB := .mk ta0 ta1 ta2 ta3 ta4 ta5 ta6 Hg Hg Hg Hg Hg Hg Hg Hg Hg
theorem ob0 {gl:JN}:NM PP (rhoS (fun _ => .bool true) gl) B 0 tb0 := UV (oa0) (oa1) (oa2) (oa3) (oa4) (oa5) (oa6) Cm Cm Cm Cm Cm Cm Cm Cm Cm
noncomputable def tab:FC := .mk tb0 HM HM HM HM HM HM HM HM HM HM HM HM HM HM HM
theorem tab_ok {gl:JN} (B:Nat):Hq Go.Proofs.Try.prog (rhoS (fun _ => .bool true) gl) B tab := .mkA (WS (ob0) Bq Bq Bq Bq Bq Bq Bq Bq Bq Bq Bq Bq Bq Bq) (SX ⟨x97, by kernel_rfl, DV.ar e97⟩ W1)
end Z
end Go.Ev.Ytdgefeadbcbglaa
