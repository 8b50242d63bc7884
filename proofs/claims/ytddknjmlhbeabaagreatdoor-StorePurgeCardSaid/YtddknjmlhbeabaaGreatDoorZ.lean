/- The table of the functions. -/
import Derived.Test.YtddknjmlhbeabaaGreatDoorF0
import Derived.Test.YtddknjmlhbeabaaGreatDoorF1
import Derived.Test.YtddknjmlhbeabaaGreatDoorF2
import Derived.Test.YtddknjmlhbeabaaGreatDoorF3
import Derived.Test.YtddknjmlhbeabaaGreatDoorF4
import Derived.Test.YtddknjmlhbeabaaGreatDoorEv5
import Derived.Test.YtddknjmlhbeabaaGreatDoorEv5
import Derived.Test.YtddknjmlhbeabaaGreatDoorK
import Derived.KernelRfl
namespace Go.Ev.YtddknjmlhbeabaaGreatDoor
open Go Go.Ev
set_option linter.unusedVariables false
set_option maxRecDepth 100000

theorem bare78 : Bare Go.Proofs.Tryz.prog 78 Extern.MapsClone.clone := ⟨Go.Proofs.Tryz.f78, Go.Proofs.Tryz.func78, by kernel_rfl, by kernel_rfl, by kernel_rfl, by kernel_rfl⟩
def nren : Shelf.Ren := { f := fun x => match x with | 129 => 183 | 284 => 170 | 317 => 229 | 318 => 230 | _ => 0, t := fun x => match x with | 0 => 0 | 3 => 3 | 4 => 4 | 5 => 5 | 9 => 9 | 46 => 225 | 53 => 32 | 212 => 328 | _ => 0, g := fun _ => 0 }
theorem nlay : Go.Proofs.LaysM.n284 Go.Proofs.Tryz.prog nren where
  mixed := by kernel_rfl
  f129 := Go.Proofs.Tryz.func183.trans (by kernel_rfl)
  f284 := Go.Proofs.Tryz.func170.trans (by kernel_rfl)
  f317 := Go.Proofs.Tryz.func229.trans (by kernel_rfl)
  f318 := Go.Proofs.Tryz.func230.trans (by kernel_rfl)
  t0 := Go.Proofs.Tryz.underlying0
  a0 := Go.Proofs.Tryz.isAgg0
  z0 := Go.Proofs.Tryz.sizeOf0
  v0 := Go.Proofs.Tryz.zeroValue0
  i0 := by kernel_rfl
  t3 := Go.Proofs.Tryz.underlying3
  a3 := Go.Proofs.Tryz.isAgg3
  z3 := Go.Proofs.Tryz.sizeOf3
  v3 := Go.Proofs.Tryz.zeroValue3
  i3 := by kernel_rfl
  t4 := Go.Proofs.Tryz.underlying4
  a4 := Go.Proofs.Tryz.isAgg4
  z4 := Go.Proofs.Tryz.sizeOf4
  v4 := Go.Proofs.Tryz.zeroValue4
  i4 := by kernel_rfl
  t5 := Go.Proofs.Tryz.underlying5
  a5 := Go.Proofs.Tryz.isAgg5
  z5 := Go.Proofs.Tryz.sizeOf5
  v5 := Go.Proofs.Tryz.zeroValue5
  i5 := by kernel_rfl
  t9 := Go.Proofs.Tryz.underlying9
  a9 := Go.Proofs.Tryz.isAgg9
  z9 := Go.Proofs.Tryz.sizeOf9
  v9 := Go.Proofs.Tryz.zeroValue9
  i9 := by kernel_rfl
  t46 := Go.Proofs.Tryz.underlying225
  a46 := Go.Proofs.Tryz.isAgg225
  z46 := Go.Proofs.Tryz.sizeOf225
  v46 := Go.Proofs.Tryz.zeroValue225
  i46 := by kernel_rfl
  t53 := Go.Proofs.Tryz.underlying32
  a53 := Go.Proofs.Tryz.isAgg32
  z53 := Go.Proofs.Tryz.sizeOf32
  v53 := Go.Proofs.Tryz.zeroValue32
  i53 := by kernel_rfl
  t212 := Go.Proofs.Tryz.underlying328
  a212 := Go.Proofs.Tryz.isAgg328
  z212 := Go.Proofs.Tryz.sizeOf328
  v212 := Go.Proofs.Tryz.zeroValue328
  i212 := by kernel_rfl
  g17 := by kernel_rfl
  m17 := by kernel_rfl
theorem digits170 : DigitsFn Go.Proofs.Tryz.prog 170 := fun u h1 h2 w ht => Go.Proofs.Any.internal_strconv_numDigits nlay u h1 h2 w ht
def sren : Shelf.Ren := { f := fun x => match x with | 6 => 80 | 8 => 130 | 9 => 129 | 19 => 182 | 20 => 183 | 21 => 173 | 22 => 174 | 23 => 175 | 24 => 176 | 25 => 177 | 26 => 178 | 27 => 179 | 28 => 180 | 29 => 181 | 31 => 234 | 32 => 235 | 36 => 233 | 37 => 236 | 38 => 237 | 39 => 238 | 41 => 262 | _ => 0, t := fun x => match x with | 0 => 0 | 3 => 3 | 4 => 4 | 5 => 5 | 9 => 9 | 26 => 59 | 27 => 59 | 29 => 9 | 32 => 225 | 35 => 281 | 36 => 282 | 41 => 287 | 44 => 29 | 46 => 32 | 53 => 330 | 57 => 334 | 63 => 352 | 64 => 353 | _ => 0, g := fun _ => 0 }
theorem slay : Go.Proofs.SlLaysM.n6 Go.Proofs.Tryz.prog sren where
  mixed := by kernel_rfl
  f6 := ⟨Go.Proofs.Tryz.f80.name, of_decide_eq_true (by kernel_rfl), Go.Proofs.Tryz.func80.trans (by kernel_rfl)⟩
  f8 := Go.Proofs.Tryz.func130.trans (by kernel_rfl)
  f9 := ⟨Go.Proofs.Tryz.f129.name, of_decide_eq_true (by kernel_rfl), Go.Proofs.Tryz.func129.trans (by kernel_rfl)⟩
  f19 := Go.Proofs.Tryz.func182.trans (by kernel_rfl)
  f20 := Go.Proofs.Tryz.func183.trans (by kernel_rfl)
  f21 := ⟨Go.Proofs.Tryz.f173.name, of_decide_eq_true (by kernel_rfl), Go.Proofs.Tryz.func173.trans (by kernel_rfl)⟩
  f22 := ⟨Go.Proofs.Tryz.f174.name, of_decide_eq_true (by kernel_rfl), Go.Proofs.Tryz.func174.trans (by kernel_rfl)⟩
  f23 := ⟨Go.Proofs.Tryz.f175.name, of_decide_eq_true (by kernel_rfl), Go.Proofs.Tryz.func175.trans (by kernel_rfl)⟩
  f24 := ⟨Go.Proofs.Tryz.f176.name, of_decide_eq_true (by kernel_rfl), Go.Proofs.Tryz.func176.trans (by kernel_rfl)⟩
  f25 := ⟨Go.Proofs.Tryz.f177.name, of_decide_eq_true (by kernel_rfl), Go.Proofs.Tryz.func177.trans (by kernel_rfl)⟩
  f26 := ⟨Go.Proofs.Tryz.f178.name, of_decide_eq_true (by kernel_rfl), Go.Proofs.Tryz.func178.trans (by kernel_rfl)⟩
  f27 := ⟨Go.Proofs.Tryz.f179.name, of_decide_eq_true (by kernel_rfl), Go.Proofs.Tryz.func179.trans (by kernel_rfl)⟩
  f28 := ⟨Go.Proofs.Tryz.f180.name, of_decide_eq_true (by kernel_rfl), Go.Proofs.Tryz.func180.trans (by kernel_rfl)⟩
  f29 := ⟨Go.Proofs.Tryz.f181.name, of_decide_eq_true (by kernel_rfl), Go.Proofs.Tryz.func181.trans (by kernel_rfl)⟩
  f31 := Go.Proofs.Tryz.func234.trans (by kernel_rfl)
  f32 := Go.Proofs.Tryz.func235.trans (by kernel_rfl)
  f36 := ⟨Go.Proofs.Tryz.f233.name, of_decide_eq_true (by kernel_rfl), Go.Proofs.Tryz.func233.trans (by kernel_rfl)⟩
  f37 := ⟨Go.Proofs.Tryz.f236.name, of_decide_eq_true (by kernel_rfl), Go.Proofs.Tryz.func236.trans (by kernel_rfl)⟩
  f38 := ⟨Go.Proofs.Tryz.f237.name, of_decide_eq_true (by kernel_rfl), Go.Proofs.Tryz.func237.trans (by kernel_rfl)⟩
  f39 := ⟨Go.Proofs.Tryz.f238.name, of_decide_eq_true (by kernel_rfl), Go.Proofs.Tryz.func238.trans (by kernel_rfl)⟩
  f41 := ⟨Go.Proofs.Tryz.f262.name, of_decide_eq_true (by kernel_rfl), Go.Proofs.Tryz.func262.trans (by kernel_rfl)⟩
  t0 := Go.Proofs.Tryz.underlying0
  a0 := Go.Proofs.Tryz.isAgg0
  z0 := Go.Proofs.Tryz.sizeOf0
  v0 := Go.Proofs.Tryz.zeroValue0
  t3 := Go.Proofs.Tryz.underlying3
  a3 := Go.Proofs.Tryz.isAgg3
  z3 := Go.Proofs.Tryz.sizeOf3
  v3 := Go.Proofs.Tryz.zeroValue3
  t4 := Go.Proofs.Tryz.underlying4
  a4 := Go.Proofs.Tryz.isAgg4
  z4 := Go.Proofs.Tryz.sizeOf4
  v4 := Go.Proofs.Tryz.zeroValue4
  t5 := Go.Proofs.Tryz.underlying5
  a5 := Go.Proofs.Tryz.isAgg5
  z5 := Go.Proofs.Tryz.sizeOf5
  v5 := Go.Proofs.Tryz.zeroValue5
  t9 := Go.Proofs.Tryz.underlying9
  a9 := Go.Proofs.Tryz.isAgg9
  z9 := Go.Proofs.Tryz.sizeOf9
  v9 := Go.Proofs.Tryz.zeroValue9
  t26 := Go.Proofs.Tryz.underlying59
  a26 := Go.Proofs.Tryz.isAgg59
  z26 := Go.Proofs.Tryz.sizeOf59
  v26 := Go.Proofs.Tryz.zeroValue59
  t27 := Go.Proofs.Tryz.underlying59
  a27 := Go.Proofs.Tryz.isAgg59
  z27 := Go.Proofs.Tryz.sizeOf59
  v27 := Go.Proofs.Tryz.zeroValue59
  t29 := Go.Proofs.Tryz.underlying9
  a29 := Go.Proofs.Tryz.isAgg9
  z29 := Go.Proofs.Tryz.sizeOf9
  v29 := Go.Proofs.Tryz.zeroValue9
  t32 := Go.Proofs.Tryz.underlying225
  a32 := Go.Proofs.Tryz.isAgg225
  z32 := Go.Proofs.Tryz.sizeOf225
  v32 := Go.Proofs.Tryz.zeroValue225
  t35 := Go.Proofs.Tryz.underlying281
  a35 := Go.Proofs.Tryz.isAgg281
  z35 := Go.Proofs.Tryz.sizeOf281
  v35 := Go.Proofs.Tryz.zeroValue281
  t36 := Go.Proofs.Tryz.underlying282
  a36 := Go.Proofs.Tryz.isAgg282
  z36 := Go.Proofs.Tryz.sizeOf282
  v36 := Go.Proofs.Tryz.zeroValue282
  t41 := Go.Proofs.Tryz.underlying287
  a41 := Go.Proofs.Tryz.isAgg287
  z41 := Go.Proofs.Tryz.sizeOf287
  v41 := Go.Proofs.Tryz.zeroValue287
  t44 := Go.Proofs.Tryz.underlying29
  a44 := Go.Proofs.Tryz.isAgg29
  z44 := Go.Proofs.Tryz.sizeOf29
  v44 := Go.Proofs.Tryz.zeroValue29
  t46 := Go.Proofs.Tryz.underlying32
  a46 := Go.Proofs.Tryz.isAgg32
  z46 := Go.Proofs.Tryz.sizeOf32
  v46 := Go.Proofs.Tryz.zeroValue32
  t53 := Go.Proofs.Tryz.underlying330
  a53 := Go.Proofs.Tryz.isAgg330
  z53 := Go.Proofs.Tryz.sizeOf330
  v53 := Go.Proofs.Tryz.zeroValue330
  t57 := Go.Proofs.Tryz.underlying334
  a57 := Go.Proofs.Tryz.isAgg334
  z57 := Go.Proofs.Tryz.sizeOf334
  v57 := Go.Proofs.Tryz.zeroValue334
  t63 := Go.Proofs.Tryz.underlying352
  a63 := Go.Proofs.Tryz.isAgg352
  z63 := Go.Proofs.Tryz.sizeOf352
  v63 := Go.Proofs.Tryz.zeroValue352
  t64 := Go.Proofs.Tryz.underlying353
  a64 := Go.Proofs.Tryz.isAgg353
  z64 := Go.Proofs.Tryz.sizeOf353
  v64 := Go.Proofs.Tryz.zeroValue353

theorem sort80 : SortFnS Go.Proofs.Tryz.prog 80 := ⟨fun blk off cap ss w hH hb hl => Go.Proofs.AnyM.slices_Sort_string slay blk off cap ss w hH hb hl, fun p cap w => Go.Proofs.AnyM.slices_Sort_string_none slay p cap w⟩
noncomputable abbrev rhoS (gl : GlF) : Env := envGl Go.Proofs.Tryz.prog [128, 131, 253, 268] gl
theorem oneS {gl : GlF} : OneSym (rhoS gl) := oneGl
abbrev HT (gl : GlF) : Prop := TabG PP gl "internal/strconv.uint64pow10" .u64 Lib.pow10Tab
variable {B : Nat}
namespace Z
noncomputable def ta0 : FA := .mk none none none none (some x4) none (some x6) (some x7) (some x8) (some x9) (some x10) (some x11) (some x12) (some x13) (some x14) (some x15)
theorem oa0 {gl : GlF} (hT : HT gl) : OKA PP (rhoS gl) B 0 ta0 := okA_mk OKO.no OKO.no OKO.no OKO.no (OKO.fn e4) OKO.no (OKO.fn e6) (OKO.fn e7) (OKO.fn e8) (OKO.fn e9) (OKO.fn e10) (OKO.fn e11) (OKO.fn e12) (OKO.fn e13) (OKO.fn e14) (OKO.fn e15)
noncomputable def ta1 : FA := .mk (some x16) (some x17) (some x18) (some x19) (some x20) (some x21) (some x22) (some x23) (some x24) (some x25) (some x26) (some x27) (some x28) (some x29) (some x30) (some x31)
theorem oa1 {gl : GlF} (hT : HT gl) : OKA PP (rhoS gl) B 16 ta1 := okA_mk (OKO.fn e16) (OKO.fn e17) (OKO.fn e18) (OKO.fn e19) (OKO.fn e20) (OKO.fn e21) (OKO.fn e22) (OKO.fn e23) (OKO.fn e24) (OKO.fn e25) (OKO.fn e26) (OKO.fn e27) (OKO.fn e28) (OKO.fn e29) (OKO.fn e30) (OKO.fn e31)
noncomputable def ta2 : FA := .mk (some x32) (some (.prim pClone)) (some x34) (some (x35.toBr 400)) (some x36) (some x37) (some (x38.toBr 400)) (some x39) (some (.prim (noFn "function 40"))) (some x41) (some x42) (some x43) (some x44) (some x45) (some x46) (some x47)
theorem oa2 {gl : GlF} (hT : HT gl) : OKA PP (rhoS gl) B 32 ta2 := okA_mk (OKO.fn e32) (OKO.pr (clone_ok (g := 78) (by kernel_rfl) bare78)) (OKO.fn e34) (OKO.brX e35 ⟨_, _, _, rfl⟩) (OKO.fn e36) (OKO.fn e37) (OKO.brX e38 ⟨_, _, _, rfl⟩) (OKO.fn e39) (OKO.noP _) (OKO.fn e41) (OKO.fn e42) (OKO.fn e43) (OKO.fn e44) (OKO.fn e45) (OKO.fn e46) (OKO.fn e47)
noncomputable def ta3 : FA := .mk (some x48) (some x49) (some x50) (some x51) (some x52) (some x53) (some x54) (some x55) (some x56) (some (.prim (noFn "function 57"))) (some (.prim (noFn "function 58"))) (some x59) (some x60) (some x61) (some x62) (some x63)
theorem oa3 {gl : GlF} (hT : HT gl) : OKA PP (rhoS gl) B 48 ta3 := okA_mk (OKO.fn e48) (OKO.fn e49) (OKO.fn e50) (OKO.fn e51) (OKO.fn e52) (OKO.fn e53) (OKO.fn e54) (OKO.fn e55) (OKO.fn e56) (OKO.noP _) (OKO.noP _) (OKO.fn e59) (OKO.fn e60) (OKO.fn e61) (OKO.fn e62) (OKO.fn e63)
noncomputable def ta4 : FA := .mk (some x64) (some x65) (some x66) (some x67) (some x68) (some x69) (some x70) (some x71) (some x72) (some x73) (some x74) (some x75) (some x76) (some x77) none (some x79)
theorem oa4 {gl : GlF} (hT : HT gl) : OKA PP (rhoS gl) B 64 ta4 := okA_mk (OKO.fn e64) (OKO.fn e65) (OKO.fn e66) (OKO.fn e67) (OKO.fn e68) (OKO.fn e69) (OKO.fn e70) (OKO.fn e71) (OKO.fn e72) (OKO.fn e73) (OKO.fn e74) (OKO.fn e75) (OKO.fn e76) (OKO.fn e77) OKO.no (OKO.fn e79)
noncomputable def ta5 : FA := .mk (some (.prim pSortS)) (some x81) (some x82) (some x83) (some x84) (some x85) (some x86) (some x87) (some x88) (some x89) (some x90) (some x91) (some x92) (some x93) (some x94) (some x95)
theorem oa5 {gl : GlF} (hT : HT gl) : OKA PP (rhoS gl) B 80 ta5 := okA_mk (OKO.pr (@sortS_ok Go.Proofs.Tryz.prog (rhoS gl) B 80 Go.Proofs.Tryz.f80 Go.Proofs.Tryz.func80 (by kernel_rfl) (by kernel_rfl) sort80)) (OKO.fn e81) (OKO.fn e82) (OKO.fn e83) (OKO.fn e84) (OKO.fn e85) (OKO.fn e86) (OKO.fn e87) (OKO.fn e88) (OKO.fn e89) (OKO.fn e90) (OKO.fn e91) (OKO.fn e92) (OKO.fn e93) (OKO.fn e94) (OKO.fn e95)
noncomputable def ta6 : FA := .mk (some x96) (some (.prim (noFn "function 97"))) (some x98) (some x99) (some x100) (some x101) (some x102) (some x103) (some x104) (some x105) (some x106) (some x107) (some x108) (some x109) (some x110) (some x111)
theorem oa6 {gl : GlF} (hT : HT gl) : OKA PP (rhoS gl) B 96 ta6 := okA_mk (OKO.fn e96) (OKO.noP _) (OKO.fn e98) (OKO.fn e99) (OKO.fn e100) (OKO.fn e101) (OKO.fn e102) (OKO.fn e103) (OKO.fn e104) (OKO.fn e105) (OKO.fn e106) (OKO.fn e107) (OKO.fn e108) (OKO.fn e109) (OKO.fn e110) (OKO.fn e111)
noncomputable def ta7 : FA := .mk (some x112) (some x113) none (some x115) (some x116) (some x117) (some x118) (some x119) (some x120) (some x121) (some (.prim (noFn "function 122"))) (some x123) (some x124) (some (.prim (noFn "function 125"))) (some x126) (some x127)
theorem oa7 {gl : GlF} (hT : HT gl) : OKA PP (rhoS gl) B 112 ta7 := okA_mk (OKO.fn e112) (OKO.fn e113) OKO.no (OKO.fn e115) (OKO.fn e116) (OKO.fn e117) (OKO.fn e118) (OKO.fn e119) (OKO.fn e120) (OKO.fn e121) (OKO.noP _) (OKO.fn e123) (OKO.fn e124) (OKO.noP _) (OKO.fn e126) (OKO.fn e127)
noncomputable def ta8 : FA := .mk (some x128) none (some x130) (some x131) (some x132) (some x133) (some x134) (some x135) (some x136) (some x137) (some x138) (some x139) (some x140) (some x141) (some x142) (some x143)
theorem oa8 {gl : GlF} (hT : HT gl) : OKA PP (rhoS gl) B 128 ta8 := okA_mk (OKO.apE (ApEnt.gl e128)) OKO.no (OKO.fn e130) (OKO.apE (ApEnt.gl e131)) (OKO.fn e132) (OKO.fn e133) (OKO.fn e134) (OKO.fn e135) (OKO.fn e136) (OKO.fn e137) (OKO.fn e138) (OKO.fn e139) (OKO.fn e140) (OKO.fn e141) (OKO.fn e142) (OKO.fn e143)
noncomputable def ta9 : FA := .mk (some x144) (some x145) (some x146) (some x147) (some x148) (some x149) (some x150) (some x151) (some x152) (some x153) (some x154) (some (x155.toBr 400)) (some x156) (some x157) (some (.prim (noFn "function 158"))) (some x159)
theorem oa9 {gl : GlF} (hT : HT gl) : OKA PP (rhoS gl) B 144 ta9 := okA_mk (OKO.fn e144) (OKO.fn e145) (OKO.fn e146) (OKO.fn e147) (OKO.fn e148) (OKO.fn e149) (OKO.fn e150) (OKO.fn e151) (OKO.fn e152) (OKO.fn e153) (OKO.fn e154) (OKO.brX e155 ⟨_, _, _, rfl⟩) (OKO.fn e156) (OKO.fn e157) (OKO.noP _) (OKO.fn e159)
noncomputable def ta10 : FA := .mk (some x160) (some x161) (some x162) (some (x163.toBr 400)) (some x164) (some (.prim (noFn "function 165"))) none none none (some x169) (some (.prim pDigits)) (some x171) (some (.prim (noFn "function 172"))) none none none
theorem oa10 {gl : GlF} (hT : HT gl) : OKA PP (rhoS gl) B 160 ta10 := okA_mk (OKO.fn e160) (OKO.fn e161) (OKO.fn e162) (OKO.brX e163 ⟨_, _, _, rfl⟩) (OKO.fn e164) (OKO.noP _) OKO.no OKO.no OKO.no (OKO.fn e169) (OKO.pr (@digits_ok Go.Proofs.Tryz.prog (rhoS gl) B 170 Go.Proofs.Tryz.f170 gl Go.Proofs.Tryz.func170 (by kernel_rfl) (by kernel_rfl) digits170 rfl hT)) (OKO.fn e171) (OKO.noP _) OKO.no OKO.no OKO.no
noncomputable def ta11 : FA := .mk none none none none none none (some x182) (some x183) (some x184) (some (.prim (noFn "function 185"))) (some (.prim (noFn "function 186"))) (some (.prim (noFn "function 187"))) (some (.prim (noFn "function 188"))) (some (.prim (noFn "function 189"))) (some x190) (some (.prim (noFn "function 191")))
theorem oa11 {gl : GlF} (hT : HT gl) : OKA PP (rhoS gl) B 176 ta11 := okA_mk OKO.no OKO.no OKO.no OKO.no OKO.no OKO.no (OKO.fn e182) (OKO.fn e183) (OKO.fn e184) (OKO.noP _) (OKO.noP _) (OKO.noP _) (OKO.noP _) (OKO.noP _) (OKO.fn e190) (OKO.noP _)
noncomputable def ta12 : FA := .mk (some (.prim (noFn "function 192"))) (some x193) (some x194) (some x195) (some (.prim (noFn "function 196"))) (some (.prim (noFn "function 197"))) (some x198) (some x199) (some x200) (some x201) (some x202) (some x203) (some (.prim (noFn "function 204"))) (some (.prim (noFn "function 205"))) (some (.prim (noFn "function 206"))) (some (.prim (noFn "function 207")))
theorem oa12 {gl : GlF} (hT : HT gl) : OKA PP (rhoS gl) B 192 ta12 := okA_mk (OKO.noP _) (OKO.fn e193) (OKO.fn e194) (OKO.fn e195) (OKO.noP _) (OKO.noP _) (OKO.fn e198) (OKO.fn e199) (OKO.fn e200) (OKO.fn e201) (OKO.fn e202) (OKO.fn e203) (OKO.noP _) (OKO.noP _) (OKO.noP _) (OKO.noP _)
noncomputable def ta13 : FA := .mk (some (.prim (noFn "function 208"))) (some (.prim (noFn "function 209"))) (some (.prim (noFn "function 210"))) (some x211) (some x212) (some x213) (some x214) none none (some x217) (some x218) (some x219) (some x220) (some x221) none none
theorem oa13 {gl : GlF} (hT : HT gl) : OKA PP (rhoS gl) B 208 ta13 := okA_mk (OKO.noP _) (OKO.noP _) (OKO.noP _) (OKO.fn e211) (OKO.fn e212) (OKO.fn e213) (OKO.fn e214) OKO.no OKO.no (OKO.fn e217) (OKO.fn e218) (OKO.fn e219) (OKO.fn e220) (OKO.fn e221) OKO.no OKO.no
noncomputable def ta14 : FA := .mk none none none none (some x228) none none none none none none none none none none none
theorem oa14 {gl : GlF} (hT : HT gl) : OKA PP (rhoS gl) B 224 ta14 := okA_mk OKO.no OKO.no OKO.no OKO.no (OKO.fn e228) OKO.no OKO.no OKO.no OKO.no OKO.no OKO.no OKO.no OKO.no OKO.no OKO.no OKO.no
noncomputable def ta15 : FA := .mk none none (some x242) (some x243) none (some x245) (some x246) none none none (some x250) (some (.prim (pSortKN 214))) (some x252) (some x253) (some x254) none
theorem oa15 {gl : GlF} (hT : HT gl) : OKA PP (rhoS gl) B 240 ta15 := okA_mk OKO.no OKO.no (OKO.fn e242) (OKO.fn e243) OKO.no (OKO.fn e245) (OKO.fn e246) OKO.no OKO.no OKO.no (OKO.fn e250) (OKO.pr (@sortKN_ok Go.Proofs.Tryz.prog (rhoS gl) B 251 214 Go.Proofs.Tryz.f251 Go.Proofs.Tryz.f214 174 133 3 Go.Proofs.Tryz.func251 (by kernel_rfl) (by kernel_rfl) sortf251 sortn251 Go.Proofs.Tryz.func214 (by kernel_rfl) (by kernel_rfl) cmp214 Go.Proofs.Tryz.underlying174 (by kernel_rfl))) (OKO.fn e252) (OKO.apE (ApEnt.gl e253)) (OKO.fn e254) OKO.no
noncomputable def ta16 : FA := .mk none none none none none none none none (some x264) (some x265) (some x266) none (some x268) none (some x270) (some (.prim (noFn "function 271")))
theorem oa16 {gl : GlF} (hT : HT gl) : OKA PP (rhoS gl) B 256 ta16 := okA_mk OKO.no OKO.no OKO.no OKO.no OKO.no OKO.no OKO.no OKO.no (OKO.fn e264) (OKO.fn e265) (OKO.fn e266) OKO.no (OKO.apE (ApEnt.gl e268)) OKO.no (OKO.fn e270) (OKO.noP _)
noncomputable def ta17 : FA := .mk (some (.prim (noFn "function 272"))) (some (.prim (noFn "function 273"))) (some (.prim (noFn "function 274"))) (some (.prim (noFn "function 275"))) (some x276) (some (.prim (noFn "function 277"))) (some (.prim (noFn "function 278"))) none none none none none none none none none
theorem oa17 {gl : GlF} (hT : HT gl) : OKA PP (rhoS gl) B 272 ta17 := okA_mk (OKO.noP _) (OKO.noP _) (OKO.noP _) (OKO.noP _) (OKO.fn e276) (OKO.noP _) (OKO.noP _) OKO.no OKO.no OKO.no OKO.no OKO.no OKO.no OKO.no OKO.no OKO.no
noncomputable def ta18 : FA := .mk none none none (some x291) none none none none none none none none none none none none
theorem oa18 {gl : GlF} (hT : HT gl) : OKA PP (rhoS gl) B 288 ta18 := okA_mk OKO.no OKO.no OKO.no (OKO.fn e291) OKO.no OKO.no OKO.no OKO.no OKO.no OKO.no OKO.no OKO.no OKO.no OKO.no OKO.no OKO.no
noncomputable def tb0 : FB := .mk ta0 ta1 ta2 ta3 ta4 ta5 ta6 ta7 ta8 ta9 ta10 ta11 ta12 ta13 ta14 ta15
theorem ob0 {gl : GlF} (hT : HT gl) : OKB PP (rhoS gl) B 0 tb0 := okB_mk (oa0 hT) (oa1 hT) (oa2 hT) (oa3 hT) (oa4 hT) (oa5 hT) (oa6 hT) (oa7 hT) (oa8 hT) (oa9 hT) (oa10 hT) (oa11 hT) (oa12 hT) (oa13 hT) (oa14 hT) (oa15 hT)
noncomputable def tb1 : FB := .mk ta16 ta17 ta18 noA noA noA noA noA noA noA noA noA noA noA noA noA
theorem ob1 {gl : GlF} (hT : HT gl) : OKB PP (rhoS gl) B 256 tb1 := okB_mk (oa16 hT) (oa17 hT) (oa18 hT) okA_no okA_no okA_no okA_no okA_no okA_no okA_no okA_no okA_no okA_no okA_no okA_no okA_no
noncomputable def tab : FC := .mk tb0 tb1 noB noB noB noB noB noB noB noB noB noB noB noB noB noB
theorem tab_ok {gl : GlF} (hT : HT gl) (B : Nat) : TabOK Go.Proofs.Tryz.prog (rhoS gl) B tab := .mkG (okC_mk (ob0 hT) (ob1 hT) okB_no okB_no okB_no okB_no okB_no okB_no okB_no okB_no okB_no okB_no okB_no okB_no okB_no) (ha_cons ⟨x128, by kernel_rfl, ApEnt.gl e128⟩ (ha_cons ⟨x131, by kernel_rfl, ApEnt.gl e131⟩ (ha_cons ⟨x253, by kernel_rfl, ApEnt.gl e253⟩ (ha_cons ⟨x268, by kernel_rfl, ApEnt.gl e268⟩ ha_nil))))
end Z
end Go.Ev.YtddknjmlhbeabaaGreatDoor
