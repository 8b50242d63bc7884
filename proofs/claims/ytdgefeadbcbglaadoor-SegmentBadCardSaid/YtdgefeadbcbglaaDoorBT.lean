/- The table of the functions. -/
import Derived.Test.YtdgefeadbcbglaaDoorBF0
import Derived.Test.YtdgefeadbcbglaaDoorBF1
import Derived.Test.YtdgefeadbcbglaaDoorBEv5
import Derived.KernelRfl
namespace Go.Ev.YtdgefeadbcbglaaDoor
open Go Go.Ev
set_option linter.unusedVariables false
set_option maxRecDepth 100000

theorem bare86:Bare Go.Proofs.Tryd.prog 86 Extern.MapsClone.clone := ⟨Go.Proofs.Tryd.f86, Go.Proofs.Tryd.func86, by kernel_rfl, by kernel_rfl, by kernel_rfl, by kernel_rfl⟩
theorem bare138:Bare Go.Proofs.Tryd.prog 138 Extern.BytealgCount.count := ⟨Go.Proofs.Tryd.f138, Go.Proofs.Tryd.func138, by kernel_rfl, by kernel_rfl, by kernel_rfl, by kernel_rfl⟩
theorem bare139:Bare Go.Proofs.Tryd.prog 139 Extern.BytealgIndexByte.indexByte := ⟨Go.Proofs.Tryd.f139, Go.Proofs.Tryd.func139, by kernel_rfl, by kernel_rfl, by kernel_rfl, by kernel_rfl⟩
def nren:Shelf.Ren := { f := fun x => match x with | 129 => 102 | 284 => 88 | 317 => 101 | 318 => 103 | _ => 0, t := fun x => match x with | 0 => 0 | 3 => 3 | 4 => 4 | 5 => 5 | 9 => 9 | 46 => 125 | 53 => 50 | 212 => 161 | _ => 0, g := fun _ => 0 }
theorem nlay:Go.Proofs.LaysM.n284 Go.Proofs.Tryd.prog nren where
  mixed := by kernel_rfl
  f129 := Go.Proofs.Tryd.func102.trans (by kernel_rfl)
  f284 := Go.Proofs.Tryd.func88.trans (by kernel_rfl)
  f317 := Go.Proofs.Tryd.func101.trans (by kernel_rfl)
  f318 := Go.Proofs.Tryd.func103.trans (by kernel_rfl)
  t0 := Go.Proofs.Tryd.underlying0
  a0 := Go.Proofs.Tryd.isAgg0
  z0 := Go.Proofs.Tryd.sizeOf0
  v0 := Go.Proofs.Tryd.zeroValue0
  i0 := by kernel_rfl
  t3 := Go.Proofs.Tryd.underlying3
  a3 := Go.Proofs.Tryd.isAgg3
  z3 := Go.Proofs.Tryd.sizeOf3
  v3 := Go.Proofs.Tryd.zeroValue3
  i3 := by kernel_rfl
  t4 := Go.Proofs.Tryd.underlying4
  a4 := Go.Proofs.Tryd.isAgg4
  z4 := Go.Proofs.Tryd.sizeOf4
  v4 := Go.Proofs.Tryd.zeroValue4
  i4 := by kernel_rfl
  t5 := Go.Proofs.Tryd.underlying5
  a5 := Go.Proofs.Tryd.isAgg5
  z5 := Go.Proofs.Tryd.sizeOf5
  v5 := Go.Proofs.Tryd.zeroValue5
  i5 := by kernel_rfl
  t9 := Go.Proofs.Tryd.underlying9
  a9 := Go.Proofs.Tryd.isAgg9
  z9 := Go.Proofs.Tryd.sizeOf9
  v9 := Go.Proofs.Tryd.zeroValue9
  i9 := by kernel_rfl
  t46 := Go.Proofs.Tryd.underlying125
  a46 := Go.Proofs.Tryd.isAgg125
  z46 := Go.Proofs.Tryd.sizeOf125
  v46 := Go.Proofs.Tryd.zeroValue125
  i46 := by kernel_rfl
  t53 := Go.Proofs.Tryd.underlying50
  a53 := Go.Proofs.Tryd.isAgg50
  z53 := Go.Proofs.Tryd.sizeOf50
  v53 := Go.Proofs.Tryd.zeroValue50
  i53 := by kernel_rfl
  t212 := Go.Proofs.Tryd.underlying161
  a212 := Go.Proofs.Tryd.isAgg161
  z212 := Go.Proofs.Tryd.sizeOf161
  v212 := Go.Proofs.Tryd.zeroValue161
  i212 := by kernel_rfl
  g17 := by kernel_rfl
  m17 := by kernel_rfl
theorem digits88:Q3 Go.Proofs.Tryd.prog 88 := fun u h1 h2 w ht => Go.Proofs.Any.internal_strconv_numDigits nlay u h1 h2 w ht
noncomputable abbrev rhoS (gl:L8):Env := Li Go.Proofs.Tryd.prog [117] gl
theorem oneS {gl:L8}:Bq (rhoS gl) := ZW
abbrev HT (gl:L8):Prop := Qt PP gl "internal/strconv.uint64pow10" .u64 Lib.pow10Tab
variable {B:Nat}
noncomputable def ta0:FA := .mk none none none none (some x4) none none none none none none none none none none (some x15)
theorem oa0 {gl:L8} (hT:HT gl):IM PP (rhoS gl) B 0 ta0 := G9 AS.no AS.no AS.no AS.no (AS.fn e4) AS.no AS.no AS.no AS.no AS.no AS.no AS.no AS.no AS.no AS.no (AS.fn e15)
noncomputable def ta1:FA := .mk (some x16) (some x17) (some x18) (some x19) (some x20) (some x21) (some x22) none none none none (some x27) (some x28) (some x29) none none
theorem oa1 {gl:L8} (hT:HT gl):IM PP (rhoS gl) B 16 ta1 := G9 (AS.fn e16) (AS.fn e17) (AS.fn e18) (AS.fn e19) (AS.fn e20) (AS.fn e21) (AS.fn e22) AS.no AS.no AS.no AS.no (AS.fn e27) (AS.fn e28) (AS.fn e29) AS.no AS.no
noncomputable def ta2:FA := .mk none none none none none (some x37) (some x38) (some x39) (some x40) (some x41) (some x42) (some x43) none none none (some x47)
theorem oa2 {gl:L8} (hT:HT gl):IM PP (rhoS gl) B 32 ta2 := G9 AS.no AS.no AS.no AS.no AS.no (AS.fn e37) (AS.fn e38) (AS.fn e39) (AS.fn e40) (AS.fn e41) (AS.fn e42) (AS.fn e43) AS.no AS.no AS.no (AS.fn e47)
noncomputable def ta3:FA := .mk (some x48) (some x49) (some x50) (some x51) (some x52) none none none none none none none none none none none
theorem oa3 {gl:L8} (hT:HT gl):IM PP (rhoS gl) B 48 ta3 := G9 (AS.fn e48) (AS.fn e49) (AS.fn e50) (AS.fn e51) (AS.fn e52) AS.no AS.no AS.no AS.no AS.no AS.no AS.no AS.no AS.no AS.no AS.no
noncomputable def ta4:FA := .mk (some x64) (some x65) (some (.prim La)) (some x67) (some x68) (some x69) (some x70) (some x71) (some x72) (some x73) (some x74) (some x75) none none none none
theorem oa4 {gl:L8} (hT:HT gl):IM PP (rhoS gl) B 64 ta4 := G9 (AS.fn e64) (AS.fn e65) (AS.pr (VL (g := 86) (by kernel_rfl) bare86)) (AS.fn e67) (AS.fn e68) (AS.fn e69) (AS.fn e70) (AS.fn e71) (AS.fn e72) (AS.fn e73) (AS.fn e74) (AS.fn e75) AS.no AS.no AS.no AS.no
noncomputable def ta5:FA := .mk none none none (some x83) (some x84) (some x85) none (some x87) (some (.prim ID)) (some x89) (some x90) (some x91) (some x92) none none none
theorem oa5 {gl:L8} (hT:HT gl):IM PP (rhoS gl) B 80 ta5 := G9 AS.no AS.no AS.no (AS.fn e83) (AS.fn e84) (AS.fn e85) AS.no (AS.fn e87) (AS.pr (@Ty Go.Proofs.Tryd.prog (rhoS gl) B 88 Go.Proofs.Tryd.f88 gl Go.Proofs.Tryd.func88 (by kernel_rfl) (by kernel_rfl) digits88 rfl hT)) (AS.fn e89) (AS.fn e90) (AS.fn e91) (AS.fn e92) AS.no AS.no AS.no
noncomputable def ta6:FA := .mk none none none none none none (some x102) none (some x104) (some x105) (some x106) (some x107) (some x108) none none none
theorem oa6 {gl:L8} (hT:HT gl):IM PP (rhoS gl) B 96 ta6 := G9 AS.no AS.no AS.no AS.no AS.no AS.no (AS.fn e102) AS.no (AS.fn e104) (AS.fn e105) (AS.fn e106) (AS.fn e107) (AS.fn e108) AS.no AS.no AS.no
noncomputable def ta7:FA := .mk none none none (some x115) (some x116) (some x117) (some x118) (some x119) none none none none none none (some x126) (some (.prim (Pe "")))
theorem oa7 {gl:L8} (hT:HT gl):IM PP (rhoS gl) B 112 ta7 := G9 AS.no AS.no AS.no (AS.fn e115) (AS.fn e116) (AS.apE (Gm.gl e117)) (AS.fn e118) (AS.fn e119) AS.no AS.no AS.no AS.no AS.no AS.no (AS.fn e126) (AS.noP _)
noncomputable def ta8:FA := .mk (some (.prim (Pe ""))) (some (.prim (Pe ""))) (some (.prim (Pe ""))) (some (.prim (Pe ""))) (some x132) (some (.prim (Pe ""))) (some (.prim (Pe ""))) (some x135) none none none none none none none none
theorem oa8 {gl:L8} (hT:HT gl):IM PP (rhoS gl) B 128 ta8 := G9 (AS.noP _) (AS.noP _) (AS.noP _) (AS.noP _) (AS.fn e132) (AS.noP _) (AS.noP _) (AS.fn e135) AS.no AS.no AS.no AS.no AS.no AS.no AS.no AS.no
noncomputable def ta9:FA := .mk none none none none (some x148) none none none none none none none none none none none
theorem oa9 {gl:L8} (hT:HT gl):IM PP (rhoS gl) B 144 ta9 := G9 AS.no AS.no AS.no AS.no (AS.fn e148) AS.no AS.no AS.no AS.no AS.no AS.no AS.no AS.no AS.no AS.no AS.no
noncomputable def tb0:FB := .mk ta0 ta1 ta2 ta3 ta4 ta5 ta6 ta7 ta8 ta9 Kj Kj Kj Kj Kj Kj
theorem ob0 {gl:L8} (hT:HT gl):NX PP (rhoS gl) B 0 tb0 := Ye (oa0 hT) (oa1 hT) (oa2 hT) (oa3 hT) (oa4 hT) (oa5 hT) (oa6 hT) (oa7 hT) (oa8 hT) (oa9 hT) Ii Ii Ii Ii Ii Ii
noncomputable def tab:FC := .mk tb0 ML ML ML ML ML ML ML ML ML ML ML ML ML ML ML
theorem tab_ok {gl:L8} (hT:HT gl) (B:Nat):JQ Go.Proofs.Tryd.prog (rhoS gl) B tab := .mkG (YV (ob0 hT) E0 E0 E0 E0 E0 E0 E0 E0 E0 E0 E0 E0 E0 E0) (Wt ⟨x117, by kernel_rfl, Gm.gl e117⟩ Yy)
end Go.Ev.YtdgefeadbcbglaaDoor
