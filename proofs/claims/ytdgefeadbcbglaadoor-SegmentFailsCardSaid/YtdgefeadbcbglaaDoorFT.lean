/- The table of the functions. -/
import Derived.Test.YtdgefeadbcbglaaDoorFF0
import Derived.Test.YtdgefeadbcbglaaDoorFF1
import Derived.Test.YtdgefeadbcbglaaDoorFEv5
import Derived.KernelRfl
namespace Go.Ev.YtdgefeadbcbglaaDoor
open Go Go.Ev
set_option linter.unusedVariables false
set_option maxRecDepth 100000

theorem bare86:Bare Go.Proofs.Tryd.prog 86 Extern.MapsClone.clone := ⟨Go.Proofs.Tryd.f86, Go.Proofs.Tryd.func86, by kernel_rfl, by kernel_rfl, by kernel_rfl, by kernel_rfl⟩
theorem bare138:Bare Go.Proofs.Tryd.prog 138 Extern.BytealgCount.count := ⟨Go.Proofs.Tryd.f138, Go.Proofs.Tryd.func138, by kernel_rfl, by kernel_rfl, by kernel_rfl, by kernel_rfl⟩
theorem bare139:Bare Go.Proofs.Tryd.prog 139 Extern.BytealgIndexByte.indexByte := ⟨Go.Proofs.Tryd.f139, Go.Proofs.Tryd.func139, by kernel_rfl, by kernel_rfl, by kernel_rfl, by kernel_rfl⟩
def nren:Shelf.Ren := { f := fun x => match x with | 129 => 102 | 284 => 88 | 317 => 101 | 318 => 103 | _ => 0, t := fun x => match x with | 0 => 0 | 3 => 3 | 4 => 4 | 5 => 5 | 9 => 9 | 46 => 125 | 53 => 50 | 212 => 161 | _ => 0, g := fun _ => 0 }
theorem nlay:Go.Proofs.LaysM.n284 Go.Proofs.Tryd.prog nren where
  mixed := by kernel_rfl
  f129 := Go.Proofs.Tryd.func102.trans (by kernel_rfl)
  f284 := Go.Proofs.Tryd.func88.trans (by kernel_rfl)
  f317 := Go.Proofs.Tryd.func101.trans (by kernel_rfl)
  f318 := Go.Proofs.Tryd.func103.trans (by kernel_rfl)
  t0 := Go.Proofs.Tryd.underlying0
  a0 := Go.Proofs.Tryd.isAgg0
  z0 := Go.Proofs.Tryd.sizeOf0
  v0 := Go.Proofs.Tryd.zeroValue0
  i0 := by kernel_rfl
  t3 := Go.Proofs.Tryd.underlying3
  a3 := Go.Proofs.Tryd.isAgg3
  z3 := Go.Proofs.Tryd.sizeOf3
  v3 := Go.Proofs.Tryd.zeroValue3
  i3 := by kernel_rfl
  t4 := Go.Proofs.Tryd.underlying4
  a4 := Go.Proofs.Tryd.isAgg4
  z4 := Go.Proofs.Tryd.sizeOf4
  v4 := Go.Proofs.Tryd.zeroValue4
  i4 := by kernel_rfl
  t5 := Go.Proofs.Tryd.underlying5
  a5 := Go.Proofs.Tryd.isAgg5
  z5 := Go.Proofs.Tryd.sizeOf5
  v5 := Go.Proofs.Tryd.zeroValue5
  i5 := by kernel_rfl
  t9 := Go.Proofs.Tryd.underlying9
  a9 := Go.Proofs.Tryd.isAgg9
  z9 := Go.Proofs.Tryd.sizeOf9
  v9 := Go.Proofs.Tryd.zeroValue9
  i9 := by kernel_rfl
  t46 := Go.Proofs.Tryd.underlying125
  a46 := Go.Proofs.Tryd.isAgg125
  z46 := Go.Proofs.Tryd.sizeOf125
  v46 := Go.Proofs.Tryd.zeroValue125
  i46 := by kernel_rfl
  t53 := Go.Proofs.Tryd.underlying50
  a53 := Go.Proofs.Tryd.isAgg50
  z53 := Go.Proofs.Tryd.sizeOf50
  v53 := Go.Proofs.Tryd.zeroValue50
  i53 := by kernel_rfl
  t212 := Go.Proofs.Tryd.underlying161
  a212 := Go.Proofs.Tryd.isAgg161
  z212 := Go.Proofs.Tryd.sizeOf161
  v212 := Go.Proofs.Tryd.zeroValue161
  i212 := by kernel_rfl
  g17 := by kernel_rfl
  m17 := by kernel_rfl
theorem digits88:Pj Go.Proofs.Tryd.prog 88 := fun u h1 h2 w ht => Go.Proofs.Any.internal_strconv_numDigits nlay u h1 h2 w ht
noncomputable abbrev rhoS (gl:Kt):Env := KG Go.Proofs.Tryd.prog [117] gl
theorem oneS {gl:Kt}:Bm (rhoS gl) := Abt
abbrev HT (gl:Kt):Prop := Qv PP gl "internal/strconv.uint64pow10" .u64 Lib.pow10Tab
variable {B:Nat}
noncomputable def ta0:FA := .mk none none none none none (some x5) none none none none none none none none none (some x15)
theorem oa0 {gl:Kt} (hT:HT gl):IX PP (rhoS gl) B 0 ta0 := Gb AP.no AP.no AP.no AP.no AP.no (AP.fn e5) AP.no AP.no AP.no AP.no AP.no AP.no AP.no AP.no AP.no (AP.fn e15)
noncomputable def ta1:FA := .mk (some x16) (some x17) none none (some x20) (some x21) (some x22) (some x23) none none none (some x27) (some x28) (some x29) none none
theorem oa1 {gl:Kt} (hT:HT gl):IX PP (rhoS gl) B 16 ta1 := Gb (AP.fn e16) (AP.fn e17) AP.no AP.no (AP.fn e20) (AP.fn e21) (AP.fn e22) (AP.fn e23) AP.no AP.no AP.no (AP.fn e27) (AP.fn e28) (AP.fn e29) AP.no AP.no
noncomputable def ta2:FA := .mk none none none none none (some x37) (some x38) (some x39) (some x40) none (some x42) (some x43) none none none (some x47)
theorem oa2 {gl:Kt} (hT:HT gl):IX PP (rhoS gl) B 32 ta2 := Gb AP.no AP.no AP.no AP.no AP.no (AP.fn e37) (AP.fn e38) (AP.fn e39) (AP.fn e40) AP.no (AP.fn e42) (AP.fn e43) AP.no AP.no AP.no (AP.fn e47)
noncomputable def ta3:FA := .mk (some x48) (some x49) (some x50) (some x51) (some x52) none none none none none none none none none none none
theorem oa3 {gl:Kt} (hT:HT gl):IX PP (rhoS gl) B 48 ta3 := Gb (AP.fn e48) (AP.fn e49) (AP.fn e50) (AP.fn e51) (AP.fn e52) AP.no AP.no AP.no AP.no AP.no AP.no AP.no AP.no AP.no AP.no AP.no
noncomputable def ta4:FA := .mk (some x64) (some x65) (some (.prim Lm)) (some x67) (some x68) (some x69) (some x70) (some x71) (some x72) (some x73) (some x74) (some x75) none none none none
theorem oa4 {gl:Kt} (hT:HT gl):IX PP (rhoS gl) B 64 ta4 := Gb (AP.fn e64) (AP.fn e65) (AP.pr (Un (g := 86) (by kernel_rfl) bare86)) (AP.fn e67) (AP.fn e68) (AP.fn e69) (AP.fn e70) (AP.fn e71) (AP.fn e72) (AP.fn e73) (AP.fn e74) (AP.fn e75) AP.no AP.no AP.no AP.no
noncomputable def ta5:FA := .mk none none none (some x83) (some x84) (some x85) none (some x87) (some (.prim Jc)) (some x89) (some x90) (some x91) (some x92) none none none
theorem oa5 {gl:Kt} (hT:HT gl):IX PP (rhoS gl) B 80 ta5 := Gb AP.no AP.no AP.no (AP.fn e83) (AP.fn e84) (AP.fn e85) AP.no (AP.fn e87) (AP.pr (@Tl Go.Proofs.Tryd.prog (rhoS gl) B 88 Go.Proofs.Tryd.f88 gl Go.Proofs.Tryd.func88 (by kernel_rfl) (by kernel_rfl) digits88 rfl hT)) (AP.fn e89) (AP.fn e90) (AP.fn e91) (AP.fn e92) AP.no AP.no AP.no
noncomputable def ta6:FA := .mk none none none none none none (some x102) none (some x104) (some x105) (some x106) (some x107) (some x108) none none none
theorem oa6 {gl:Kt} (hT:HT gl):IX PP (rhoS gl) B 96 ta6 := Gb AP.no AP.no AP.no AP.no AP.no AP.no (AP.fn e102) AP.no (AP.fn e104) (AP.fn e105) (AP.fn e106) (AP.fn e107) (AP.fn e108) AP.no AP.no AP.no
noncomputable def ta7:FA := .mk none none none (some x115) (some x116) (some x117) (some x118) (some x119) none none none none none none (some x126) (some (.prim (PJ "")))
theorem oa7 {gl:Kt} (hT:HT gl):IX PP (rhoS gl) B 112 ta7 := Gb AP.no AP.no AP.no (AP.fn e115) (AP.fn e116) (AP.apE (Gf.gl e117)) (AP.fn e118) (AP.fn e119) AP.no AP.no AP.no AP.no AP.no AP.no (AP.fn e126) (AP.noP _)
noncomputable def ta8:FA := .mk (some (.prim (PJ ""))) (some (.prim (PJ ""))) (some (.prim (PJ ""))) (some (.prim (PJ ""))) (some x132) (some (.prim (PJ ""))) (some (.prim (PJ ""))) (some x135) none none none none none none none none
theorem oa8 {gl:Kt} (hT:HT gl):IX PP (rhoS gl) B 128 ta8 := Gb (AP.noP _) (AP.noP _) (AP.noP _) (AP.noP _) (AP.fn e132) (AP.noP _) (AP.noP _) (AP.fn e135) AP.no AP.no AP.no AP.no AP.no AP.no AP.no AP.no
noncomputable def ta9:FA := .mk none none none none (some x148) none none none none none none none none none none none
theorem oa9 {gl:Kt} (hT:HT gl):IX PP (rhoS gl) B 144 ta9 := Gb AP.no AP.no AP.no AP.no (AP.fn e148) AP.no AP.no AP.no AP.no AP.no AP.no AP.no AP.no AP.no AP.no AP.no
noncomputable def tb0:FB := .mk ta0 ta1 ta2 ta3 ta4 ta5 ta6 ta7 ta8 ta9 Kk Kk Kk Kk Kk Kk
theorem ob0 {gl:Kt} (hT:HT gl):NX PP (rhoS gl) B 0 tb0 := Y8 (oa0 hT) (oa1 hT) (oa2 hT) (oa3 hT) (oa4 hT) (oa5 hT) (oa6 hT) (oa7 hT) (oa8 hT) (oa9 hT) In In In In In In
noncomputable def tab:FC := .mk tb0 Nq Nq Nq Nq Nq Nq Nq Nq Nq Nq Nq Nq Nq Nq Nq
theorem tab_ok {gl:Kt} (hT:HT gl) (B:Nat):JK Go.Proofs.Tryd.prog (rhoS gl) B tab := .mkG (Y5 (ob0 hT) E0 E0 E0 E0 E0 E0 E0 E0 E0 E0 E0 E0 E0 E0) (WC ⟨x117, by kernel_rfl, Gf.gl e117⟩ Yk)
end Go.Ev.YtdgefeadbcbglaaDoor
