/- The table of the functions. -/
import Derived.Test.YtdeehihoficcfaaGreatDoorF0
import Derived.Test.YtdeehihoficcfaaGreatDoorF1
import Derived.Test.YtdeehihoficcfaaGreatDoorF2
import Derived.Test.YtdeehihoficcfaaGreatDoorF3
import Derived.Test.YtdeehihoficcfaaGreatDoorF4
import Derived.Test.YtdeehihoficcfaaGreatDoorF5
import Derived.Test.YtdeehihoficcfaaGreatDoorF6
import Derived.Test.YtdeehihoficcfaaGreatDoorF7
import Derived.Test.YtdeehihoficcfaaGreatDoorEv4
import Derived.KernelRfl
namespace Go.Ev.YtdeehihoficcfaaGreatDoor
open Go Go.Ev
set_option linter.unusedVariables false
set_option maxRecDepth 100000

theorem bare217 : Bare Go.Proofs.Tryz.prog 217 Extern.MapsClone.clone := ⟨Go.Proofs.Tryz.f217, Go.Proofs.Tryz.func217, by kernel_rfl, by kernel_rfl, by kernel_rfl, by kernel_rfl⟩
theorem bare450 : Bare Go.Proofs.Tryz.prog 450 Extern.BytealgIndexByte.indexByte := ⟨Go.Proofs.Tryz.f450, Go.Proofs.Tryz.func450, by kernel_rfl, by kernel_rfl, by kernel_rfl, by kernel_rfl⟩
theorem bare484 : Bare Go.Proofs.Tryz.prog 484 Extern.BytealgCount.count := ⟨Go.Proofs.Tryz.f484, Go.Proofs.Tryz.func484, by kernel_rfl, by kernel_rfl, by kernel_rfl, by kernel_rfl⟩
def nren : Shelf.Ren := { f := fun x => match x with | 129 => 329 | 284 => 350 | 317 => 417 | 318 => 418 | _ => 0, t := fun x => match x with | 0 => 0 | 3 => 3 | 4 => 4 | 5 => 5 | 9 => 9 | 46 => 360 | 53 => 97 | 212 => 532 | _ => 0, g := fun _ => 0 }
theorem nlay : Go.Proofs.LaysM.n284 Go.Proofs.Tryz.prog nren where
  mixed := by kernel_rfl
  f129 := Go.Proofs.Tryz.func329.trans (by kernel_rfl)
  f284 := Go.Proofs.Tryz.func350.trans (by kernel_rfl)
  f317 := Go.Proofs.Tryz.func417.trans (by kernel_rfl)
  f318 := Go.Proofs.Tryz.func418.trans (by kernel_rfl)
  t0 := Go.Proofs.Tryz.underlying0
  a0 := Go.Proofs.Tryz.isAgg0
  z0 := Go.Proofs.Tryz.sizeOf0
  v0 := Go.Proofs.Tryz.zeroValue0
  i0 := by kernel_rfl
  t3 := Go.Proofs.Tryz.underlying3
  a3 := Go.Proofs.Tryz.isAgg3
  z3 := Go.Proofs.Tryz.sizeOf3
  v3 := Go.Proofs.Tryz.zeroValue3
  i3 := by kernel_rfl
  t4 := Go.Proofs.Tryz.underlying4
  a4 := Go.Proofs.Tryz.isAgg4
  z4 := Go.Proofs.Tryz.sizeOf4
  v4 := Go.Proofs.Tryz.zeroValue4
  i4 := by kernel_rfl
  t5 := Go.Proofs.Tryz.underlying5
  a5 := Go.Proofs.Tryz.isAgg5
  z5 := Go.Proofs.Tryz.sizeOf5
  v5 := Go.Proofs.Tryz.zeroValue5
  i5 := by kernel_rfl
  t9 := Go.Proofs.Tryz.underlying9
  a9 := Go.Proofs.Tryz.isAgg9
  z9 := Go.Proofs.Tryz.sizeOf9
  v9 := Go.Proofs.Tryz.zeroValue9
  i9 := by kernel_rfl
  t46 := Go.Proofs.Tryz.underlying360
  a46 := Go.Proofs.Tryz.isAgg360
  z46 := Go.Proofs.Tryz.sizeOf360
  v46 := Go.Proofs.Tryz.zeroValue360
  i46 := by kernel_rfl
  t53 := Go.Proofs.Tryz.underlying97
  a53 := Go.Proofs.Tryz.isAgg97
  z53 := Go.Proofs.Tryz.sizeOf97
  v53 := Go.Proofs.Tryz.zeroValue97
  i53 := by kernel_rfl
  t212 := Go.Proofs.Tryz.underlying532
  a212 := Go.Proofs.Tryz.isAgg532
  z212 := Go.Proofs.Tryz.sizeOf532
  v212 := Go.Proofs.Tryz.zeroValue532
  i212 := by kernel_rfl
  g17 := by kernel_rfl
  m17 := by kernel_rfl
theorem digits350 : DigitsFn Go.Proofs.Tryz.prog 350 := fun u h1 h2 w ht => Go.Proofs.Any.internal_strconv_numDigits nlay u h1 h2 w ht
noncomputable abbrev rhoS (gl : GlF) : Env := envGl Go.Proofs.Tryz.prog [271, 305, 374, 468] gl
theorem oneS {gl : GlF} : OneSym (rhoS gl) := oneGl
variable {B : Nat}
noncomputable def ta0 : FA := .mk none none none none none (some x5) none none none none (some x10) (some x11) none (some (.prim (noFn "function 13"))) none (some x15)
theorem oa0 {gl : GlF} (hT : TabG Go.Proofs.Tryz.prog gl "internal/strconv.uint64pow10" .u64 Lib.pow10Tab) : OKA Go.Proofs.Tryz.prog (rhoS gl) B 0 ta0 := okA_mk OKO.no OKO.no OKO.no OKO.no OKO.no (OKO.fn e5) OKO.no OKO.no OKO.no OKO.no (OKO.fn e10) (OKO.fn e11) OKO.no (OKO.noP _) OKO.no (OKO.fn e15)
noncomputable def ta1 : FA := .mk (some x16) (some x17) (some (.prim (noFn "function 18"))) (some (.prim (noFn "function 19"))) (some (.prim (noFn "function 20"))) (some x21) none (some (x23.toBr 400)) none (some (.prim (noFn "function 25"))) (some (.prim (noFn "function 26"))) (some x27) none (some x29) (some x30) (some x31)
theorem oa1 {gl : GlF} (hT : TabG Go.Proofs.Tryz.prog gl "internal/strconv.uint64pow10" .u64 Lib.pow10Tab) : OKA Go.Proofs.Tryz.prog (rhoS gl) B 16 ta1 := okA_mk (OKO.fn e16) (OKO.fn e17) (OKO.noP _) (OKO.noP _) (OKO.noP _) (OKO.fn e21) OKO.no (OKO.brX e23 ⟨_, _, _, rfl⟩) OKO.no (OKO.noP _) (OKO.noP _) (OKO.fn e27) OKO.no (OKO.fn e29) (OKO.fn e30) (OKO.fn e31)
noncomputable def ta2 : FA := .mk (some x32) (some x33) none (some (x35.toBr 400)) (some x36) (some x37) (some x38) (some x39) (some x40) (some x41) (some x42) (some x43) (some x44) (some x45) (some x46) (some x47)
theorem oa2 {gl : GlF} (hT : TabG Go.Proofs.Tryz.prog gl "internal/strconv.uint64pow10" .u64 Lib.pow10Tab) : OKA Go.Proofs.Tryz.prog (rhoS gl) B 32 ta2 := okA_mk (OKO.fn e32) (OKO.fn e33) OKO.no (OKO.brX e35 ⟨_, _, _, rfl⟩) (OKO.fn e36) (OKO.fn e37) (OKO.fn e38) (OKO.fn e39) (OKO.fn e40) (OKO.fn e41) (OKO.fn e42) (OKO.fn e43) (OKO.fn e44) (OKO.fn e45) (OKO.fn e46) (OKO.fn e47)
noncomputable def ta3 : FA := .mk (some x48) (some x49) (some x50) (some x51) (some x52) (some (.prim (noFn "function 53"))) (some x54) none (some x56) (some (.prim (noFn "function 57"))) none (some x59) (some x60) (some x61) (some x62) none
theorem oa3 {gl : GlF} (hT : TabG Go.Proofs.Tryz.prog gl "internal/strconv.uint64pow10" .u64 Lib.pow10Tab) : OKA Go.Proofs.Tryz.prog (rhoS gl) B 48 ta3 := okA_mk (OKO.fn e48) (OKO.fn e49) (OKO.fn e50) (OKO.fn e51) (OKO.fn e52) (OKO.noP _) (OKO.fn e54) OKO.no (OKO.fn e56) (OKO.noP _) OKO.no (OKO.fn e59) (OKO.fn e60) (OKO.fn e61) (OKO.fn e62) OKO.no
noncomputable def ta4 : FA := .mk none none (some x66) (some x67) (some x68) (some x69) (some x70) (some (.prim (noFn "function 71"))) (some x72) (some x73) (some (.prim (noFn "function 74"))) (some x75) (some x76) (some x77) none (some (x79.toBr 400))
theorem oa4 {gl : GlF} (hT : TabG Go.Proofs.Tryz.prog gl "internal/strconv.uint64pow10" .u64 Lib.pow10Tab) : OKA Go.Proofs.Tryz.prog (rhoS gl) B 64 ta4 := okA_mk OKO.no OKO.no (OKO.fn e66) (OKO.fn e67) (OKO.fn e68) (OKO.fn e69) (OKO.fn e70) (OKO.noP _) (OKO.fn e72) (OKO.fn e73) (OKO.noP _) (OKO.fn e75) (OKO.fn e76) (OKO.fn e77) OKO.no (OKO.brX e79 ⟨_, _, _, rfl⟩)
noncomputable def ta5 : FA := .mk none none (some (.prim (noFn "function 82"))) (some x83) (some x84) (some x85) (some (.prim (noFn "function 86"))) none none none (some x90) none (some x92) (some x93) (some x94) (some x95)
theorem oa5 {gl : GlF} (hT : TabG Go.Proofs.Tryz.prog gl "internal/strconv.uint64pow10" .u64 Lib.pow10Tab) : OKA Go.Proofs.Tryz.prog (rhoS gl) B 80 ta5 := okA_mk OKO.no OKO.no (OKO.noP _) (OKO.fn e83) (OKO.fn e84) (OKO.fn e85) (OKO.noP _) OKO.no OKO.no OKO.no (OKO.fn e90) OKO.no (OKO.fn e92) (OKO.fn e93) (OKO.fn e94) (OKO.fn e95)
noncomputable def ta6 : FA := .mk (some x96) (some x97) (some x98) (some x99) (some (.prim (noFn "function 100"))) (some x101) (some (x102.toBr 400)) (some x103) (some x104) (some x105) (some x106) (some x107) (some (.prim (noFn "function 108"))) (some x109) (some x110) (some x111)
theorem oa6 {gl : GlF} (hT : TabG Go.Proofs.Tryz.prog gl "internal/strconv.uint64pow10" .u64 Lib.pow10Tab) : OKA Go.Proofs.Tryz.prog (rhoS gl) B 96 ta6 := okA_mk (OKO.fn e96) (OKO.fn e97) (OKO.fn e98) (OKO.fn e99) (OKO.noP _) (OKO.fn e101) (OKO.brX e102 ⟨_, _, _, rfl⟩) (OKO.fn e103) (OKO.fn e104) (OKO.fn e105) (OKO.fn e106) (OKO.fn e107) (OKO.noP _) (OKO.fn e109) (OKO.fn e110) (OKO.fn e111)
noncomputable def ta7 : FA := .mk (some x112) (some x113) (some x114) (some x115) (some x116) (some x117) (some x118) (some x119) (some x120) (some x121) (some x122) (some x123) (some x124) (some x125) (some x126) (some (.prim (noFn "function 127")))
theorem oa7 {gl : GlF} (hT : TabG Go.Proofs.Tryz.prog gl "internal/strconv.uint64pow10" .u64 Lib.pow10Tab) : OKA Go.Proofs.Tryz.prog (rhoS gl) B 112 ta7 := okA_mk (OKO.fn e112) (OKO.fn e113) (OKO.fn e114) (OKO.fn e115) (OKO.fn e116) (OKO.fn e117) (OKO.fn e118) (OKO.fn e119) (OKO.fn e120) (OKO.fn e121) (OKO.fn e122) (OKO.fn e123) (OKO.fn e124) (OKO.fn e125) (OKO.fn e126) (OKO.noP _)
noncomputable def ta8 : FA := .mk (some x128) (some (.prim pClone)) (some x130) (some (x131.toBr 400)) (some x132) (some x133) none none (some x136) (some x137) none none none (some x141) (some x142) (some x143)
theorem oa8 {gl : GlF} (hT : TabG Go.Proofs.Tryz.prog gl "internal/strconv.uint64pow10" .u64 Lib.pow10Tab) : OKA Go.Proofs.Tryz.prog (rhoS gl) B 128 ta8 := okA_mk (OKO.fn e128) (OKO.pr (clone_ok (g := 217) (by kernel_rfl) bare217)) (OKO.fn e130) (OKO.brX e131 ⟨_, _, _, rfl⟩) (OKO.fn e132) (OKO.fn e133) OKO.no OKO.no (OKO.fn e136) (OKO.fn e137) OKO.no OKO.no OKO.no (OKO.fn e141) (OKO.fn e142) (OKO.fn e143)
noncomputable def ta9 : FA := .mk (some x144) (some x145) (some x146) (some x147) (some x148) (some x149) (some x150) (some x151) (some x152) (some x153) (some x154) (some x155) (some (.prim (noFn "function 156"))) (some x157) (some x158) (some x159)
theorem oa9 {gl : GlF} (hT : TabG Go.Proofs.Tryz.prog gl "internal/strconv.uint64pow10" .u64 Lib.pow10Tab) : OKA Go.Proofs.Tryz.prog (rhoS gl) B 144 ta9 := okA_mk (OKO.fn e144) (OKO.fn e145) (OKO.fn e146) (OKO.fn e147) (OKO.fn e148) (OKO.fn e149) (OKO.fn e150) (OKO.fn e151) (OKO.fn e152) (OKO.fn e153) (OKO.fn e154) (OKO.fn e155) (OKO.noP _) (OKO.fn e157) (OKO.fn e158) (OKO.fn e159)
noncomputable def ta10 : FA := .mk none none (some x162) (some x163) (some x164) (some x165) none (some x167) (some x168) (some x169) (some x170) (some x171) (some x172) (some x173) (some x174) (some x175)
theorem oa10 {gl : GlF} (hT : TabG Go.Proofs.Tryz.prog gl "internal/strconv.uint64pow10" .u64 Lib.pow10Tab) : OKA Go.Proofs.Tryz.prog (rhoS gl) B 160 ta10 := okA_mk OKO.no OKO.no (OKO.fn e162) (OKO.fn e163) (OKO.fn e164) (OKO.fn e165) OKO.no (OKO.fn e167) (OKO.fn e168) (OKO.fn e169) (OKO.fn e170) (OKO.fn e171) (OKO.fn e172) (OKO.fn e173) (OKO.fn e174) (OKO.fn e175)
noncomputable def ta11 : FA := .mk (some x176) (some x177) (some x178) (some x179) (some x180) (some x181) (some x182) (some x183) (some x184) (some x185) (some x186) (some x187) (some (x188.toBr 400)) (some x189) (some x190) (some x191)
theorem oa11 {gl : GlF} (hT : TabG Go.Proofs.Tryz.prog gl "internal/strconv.uint64pow10" .u64 Lib.pow10Tab) : OKA Go.Proofs.Tryz.prog (rhoS gl) B 176 ta11 := okA_mk (OKO.fn e176) (OKO.fn e177) (OKO.fn e178) (OKO.fn e179) (OKO.fn e180) (OKO.fn e181) (OKO.fn e182) (OKO.fn e183) (OKO.fn e184) (OKO.fn e185) (OKO.fn e186) (OKO.fn e187) (OKO.brX e188 ⟨_, _, _, rfl⟩) (OKO.fn e189) (OKO.fn e190) (OKO.fn e191)
noncomputable def ta12 : FA := .mk (some x192) (some (.prim (noFn "function 193"))) (some x194) (some x195) (some x196) (some x197) (some x198) (some x199) (some x200) (some x201) (some (.prim (noFn "function 202"))) (some (.prim (noFn "function 203"))) (some x204) none none none
theorem oa12 {gl : GlF} (hT : TabG Go.Proofs.Tryz.prog gl "internal/strconv.uint64pow10" .u64 Lib.pow10Tab) : OKA Go.Proofs.Tryz.prog (rhoS gl) B 192 ta12 := okA_mk (OKO.fn e192) (OKO.noP _) (OKO.fn e194) (OKO.fn e195) (OKO.fn e196) (OKO.fn e197) (OKO.fn e198) (OKO.fn e199) (OKO.fn e200) (OKO.fn e201) (OKO.noP _) (OKO.noP _) (OKO.fn e204) OKO.no OKO.no OKO.no
noncomputable def ta13 : FA := .mk none none none none none none (some x214) (some x215) (some x216) none (some x218) (some x219) none (some x221) (some x222) none
theorem oa13 {gl : GlF} (hT : TabG Go.Proofs.Tryz.prog gl "internal/strconv.uint64pow10" .u64 Lib.pow10Tab) : OKA Go.Proofs.Tryz.prog (rhoS gl) B 208 ta13 := okA_mk OKO.no OKO.no OKO.no OKO.no OKO.no OKO.no (OKO.fn e214) (OKO.fn e215) (OKO.fn e216) OKO.no (OKO.fn e218) (OKO.fn e219) OKO.no (OKO.fn e221) (OKO.fn e222) OKO.no
noncomputable def ta14 : FA := .mk (some x224) none none (some x227) none (some x229) none none none (some x233) (some x234) (some x235) (some x236) (some x237) (some x238) (some x239)
theorem oa14 {gl : GlF} (hT : TabG Go.Proofs.Tryz.prog gl "internal/strconv.uint64pow10" .u64 Lib.pow10Tab) : OKA Go.Proofs.Tryz.prog (rhoS gl) B 224 ta14 := okA_mk (OKO.fn e224) OKO.no OKO.no (OKO.fn e227) OKO.no (OKO.fn e229) OKO.no OKO.no OKO.no (OKO.fn e233) (OKO.fn e234) (OKO.fn e235) (OKO.fn e236) (OKO.fn e237) (OKO.fn e238) (OKO.fn e239)
noncomputable def ta15 : FA := .mk (some x240) (some x241) (some x242) (some x243) (some x244) (some x245) (some x246) (some x247) (some (.prim (noFn "function 248"))) (some x249) (some x250) (some x251) (some x252) (some x253) (some x254) (some x255)
theorem oa15 {gl : GlF} (hT : TabG Go.Proofs.Tryz.prog gl "internal/strconv.uint64pow10" .u64 Lib.pow10Tab) : OKA Go.Proofs.Tryz.prog (rhoS gl) B 240 ta15 := okA_mk (OKO.fn e240) (OKO.fn e241) (OKO.fn e242) (OKO.fn e243) (OKO.fn e244) (OKO.fn e245) (OKO.fn e246) (OKO.fn e247) (OKO.noP _) (OKO.fn e249) (OKO.fn e250) (OKO.fn e251) (OKO.fn e252) (OKO.fn e253) (OKO.fn e254) (OKO.fn e255)
noncomputable def ta16 : FA := .mk (some x256) (some (.prim (noFn "function 257"))) (some x258) (some x259) (some x260) (some x261) (some x262) (some x263) (some x264) (some x265) (some x266) (some x267) (some x268) (some x269) (some x270) (some x271)
theorem oa16 {gl : GlF} (hT : TabG Go.Proofs.Tryz.prog gl "internal/strconv.uint64pow10" .u64 Lib.pow10Tab) : OKA Go.Proofs.Tryz.prog (rhoS gl) B 256 ta16 := okA_mk (OKO.fn e256) (OKO.noP _) (OKO.fn e258) (OKO.fn e259) (OKO.fn e260) (OKO.fn e261) (OKO.fn e262) (OKO.fn e263) (OKO.fn e264) (OKO.fn e265) (OKO.fn e266) (OKO.fn e267) (OKO.fn e268) (OKO.fn e269) (OKO.fn e270) (OKO.apE (ApEnt.gl e271))
noncomputable def ta17 : FA := .mk (some x272) (some x273) (some x274) (some x275) (some x276) (some x277) (some x278) (some x279) (some x280) (some x281) (some x282) (some x283) (some x284) (some x285) (some x286) (some x287)
theorem oa17 {gl : GlF} (hT : TabG Go.Proofs.Tryz.prog gl "internal/strconv.uint64pow10" .u64 Lib.pow10Tab) : OKA Go.Proofs.Tryz.prog (rhoS gl) B 272 ta17 := okA_mk (OKO.fn e272) (OKO.fn e273) (OKO.fn e274) (OKO.fn e275) (OKO.fn e276) (OKO.fn e277) (OKO.fn e278) (OKO.fn e279) (OKO.fn e280) (OKO.fn e281) (OKO.fn e282) (OKO.fn e283) (OKO.fn e284) (OKO.fn e285) (OKO.fn e286) (OKO.fn e287)
noncomputable def ta18 : FA := .mk (some x288) (some x289) (some x290) (some x291) (some x292) (some x293) (some x294) (some (.prim (noFn "function 295"))) none none (some x298) (some x299) none none none (some x303)
theorem oa18 {gl : GlF} (hT : TabG Go.Proofs.Tryz.prog gl "internal/strconv.uint64pow10" .u64 Lib.pow10Tab) : OKA Go.Proofs.Tryz.prog (rhoS gl) B 288 ta18 := okA_mk (OKO.fn e288) (OKO.fn e289) (OKO.fn e290) (OKO.fn e291) (OKO.fn e292) (OKO.fn e293) (OKO.fn e294) (OKO.noP _) OKO.no OKO.no (OKO.fn e298) (OKO.fn e299) OKO.no OKO.no OKO.no (OKO.fn e303)
noncomputable def ta19 : FA := .mk (some x304) (some x305) (some x306) (some (.prim (noFn "function 307"))) none none none none none none none (some x315) (some x316) (some x317) none (some x319)
theorem oa19 {gl : GlF} (hT : TabG Go.Proofs.Tryz.prog gl "internal/strconv.uint64pow10" .u64 Lib.pow10Tab) : OKA Go.Proofs.Tryz.prog (rhoS gl) B 304 ta19 := okA_mk (OKO.fn e304) (OKO.apE (ApEnt.gl e305)) (OKO.fn e306) (OKO.noP _) OKO.no OKO.no OKO.no OKO.no OKO.no OKO.no OKO.no (OKO.fn e315) (OKO.fn e316) (OKO.fn e317) OKO.no (OKO.fn e319)
noncomputable def ta20 : FA := .mk (some x320) (some (.prim (noFn "function 321"))) (some (.prim (noFn "function 322"))) (some (.prim (noFn "function 323"))) (some (.prim (noFn "function 324"))) (some (.prim (noFn "function 325"))) (some (.prim (noFn "function 326"))) (some (.prim (noFn "function 327"))) (some x328) (some x329) (some x330) (some x331) (some x332) (some x333) (some x334) (some (x335.toBr 400))
theorem oa20 {gl : GlF} (hT : TabG Go.Proofs.Tryz.prog gl "internal/strconv.uint64pow10" .u64 Lib.pow10Tab) : OKA Go.Proofs.Tryz.prog (rhoS gl) B 320 ta20 := okA_mk (OKO.fn e320) (OKO.noP _) (OKO.noP _) (OKO.noP _) (OKO.noP _) (OKO.noP _) (OKO.noP _) (OKO.noP _) (OKO.fn e328) (OKO.fn e329) (OKO.fn e330) (OKO.fn e331) (OKO.fn e332) (OKO.fn e333) (OKO.fn e334) (OKO.brX e335 ⟨_, _, _, rfl⟩)
noncomputable def ta21 : FA := .mk (some x336) (some x337) none none (some x340) (some (.prim (noFn "function 341"))) (some (.prim (noFn "function 342"))) (some (.prim (noFn "function 343"))) (some (.prim (noFn "function 344"))) (some (.prim (noFn "function 345"))) (some x346) (some (.prim (noFn "function 347"))) (some (.prim (noFn "function 348"))) (some x349) (some (.prim pDigits)) (some x351)
theorem oa21 {gl : GlF} (hT : TabG Go.Proofs.Tryz.prog gl "internal/strconv.uint64pow10" .u64 Lib.pow10Tab) : OKA Go.Proofs.Tryz.prog (rhoS gl) B 336 ta21 := okA_mk (OKO.fn e336) (OKO.fn e337) OKO.no OKO.no (OKO.fn e340) (OKO.noP _) (OKO.noP _) (OKO.noP _) (OKO.noP _) (OKO.noP _) (OKO.fn e346) (OKO.noP _) (OKO.noP _) (OKO.fn e349) (OKO.pr (@digits_ok Go.Proofs.Tryz.prog (rhoS gl) B 350 Go.Proofs.Tryz.f350 gl Go.Proofs.Tryz.func350 (by kernel_rfl) (by kernel_rfl) digits350 rfl hT)) (OKO.fn e351)
noncomputable def ta22 : FA := .mk (some x352) (some x353) (some (.prim (noFn "function 354"))) (some x355) (some x356) (some x357) (some x358) (some x359) (some x360) (some x361) (some x362) (some (.prim (noFn "function 363"))) (some (.prim (noFn "function 364"))) (some (.prim (noFn "function 365"))) (some (.prim (noFn "function 366"))) (some (.prim (noFn "function 367")))
theorem oa22 {gl : GlF} (hT : TabG Go.Proofs.Tryz.prog gl "internal/strconv.uint64pow10" .u64 Lib.pow10Tab) : OKA Go.Proofs.Tryz.prog (rhoS gl) B 352 ta22 := okA_mk (OKO.fn e352) (OKO.fn e353) (OKO.noP _) (OKO.fn e355) (OKO.fn e356) (OKO.fn e357) (OKO.fn e358) (OKO.fn e359) (OKO.fn e360) (OKO.fn e361) (OKO.fn e362) (OKO.noP _) (OKO.noP _) (OKO.noP _) (OKO.noP _) (OKO.noP _)
noncomputable def ta23 : FA := .mk (some x368) (some (.prim (noFn "function 369"))) (some (.prim (noFn "function 370"))) (some (.prim (noFn "function 371"))) (some x372) (some (.prim (noFn "function 373"))) (some x374) (some x375) (some x376) (some x377) (some x378) (some x379) (some x380) (some (.prim (noFn "function 381"))) (some x382) (some x383)
theorem oa23 {gl : GlF} (hT : TabG Go.Proofs.Tryz.prog gl "internal/strconv.uint64pow10" .u64 Lib.pow10Tab) : OKA Go.Proofs.Tryz.prog (rhoS gl) B 368 ta23 := okA_mk (OKO.fn e368) (OKO.noP _) (OKO.noP _) (OKO.noP _) (OKO.fn e372) (OKO.noP _) (OKO.apE (ApEnt.gl e374)) (OKO.fn e375) (OKO.fn e376) (OKO.fn e377) (OKO.fn e378) (OKO.fn e379) (OKO.fn e380) (OKO.noP _) (OKO.fn e382) (OKO.fn e383)
noncomputable def ta24 : FA := .mk (some x384) none none none none none none none none none (some x394) (some x395) none none none none
theorem oa24 {gl : GlF} (hT : TabG Go.Proofs.Tryz.prog gl "internal/strconv.uint64pow10" .u64 Lib.pow10Tab) : OKA Go.Proofs.Tryz.prog (rhoS gl) B 384 ta24 := okA_mk (OKO.fn e384) OKO.no OKO.no OKO.no OKO.no OKO.no OKO.no OKO.no OKO.no OKO.no (OKO.fn e394) (OKO.fn e395) OKO.no OKO.no OKO.no OKO.no
noncomputable def ta25 : FA := .mk none none (some x402) (some x403) none none none none none (some x409) (some x410) (some x411) (some x412) none none none
theorem oa25 {gl : GlF} (hT : TabG Go.Proofs.Tryz.prog gl "internal/strconv.uint64pow10" .u64 Lib.pow10Tab) : OKA Go.Proofs.Tryz.prog (rhoS gl) B 400 ta25 := okA_mk OKO.no OKO.no (OKO.fn e402) (OKO.fn e403) OKO.no OKO.no OKO.no OKO.no OKO.no (OKO.fn e409) (OKO.fn e410) (OKO.fn e411) (OKO.fn e412) OKO.no OKO.no OKO.no
noncomputable def ta26 : FA := .mk (some x416) none none (some x419) (some x420) (some x421) (some x422) (some x423) none none none (some x427) (some x428) (some x429) none none
theorem oa26 {gl : GlF} (hT : TabG Go.Proofs.Tryz.prog gl "internal/strconv.uint64pow10" .u64 Lib.pow10Tab) : OKA Go.Proofs.Tryz.prog (rhoS gl) B 416 ta26 := okA_mk (OKO.fn e416) OKO.no OKO.no (OKO.fn e419) (OKO.fn e420) (OKO.fn e421) (OKO.fn e422) (OKO.fn e423) OKO.no OKO.no OKO.no (OKO.fn e427) (OKO.fn e428) (OKO.fn e429) OKO.no OKO.no
noncomputable def ta27 : FA := .mk (some x432) (some (.prim (noFn "function 433"))) (some (.prim (noFn "function 434"))) (some (.prim (noFn "function 435"))) (some (.prim (noFn "function 436"))) (some (.prim (noFn "function 437"))) (some x438) (some (.prim (noFn "function 439"))) (some (.prim (noFn "function 440"))) (some (.prim (noFn "function 441"))) (some x442) (some x443) (some x444) (some x445) (some x446) (some x447)
theorem oa27 {gl : GlF} (hT : TabG Go.Proofs.Tryz.prog gl "internal/strconv.uint64pow10" .u64 Lib.pow10Tab) : OKA Go.Proofs.Tryz.prog (rhoS gl) B 432 ta27 := okA_mk (OKO.fn e432) (OKO.noP _) (OKO.noP _) (OKO.noP _) (OKO.noP _) (OKO.noP _) (OKO.fn e438) (OKO.noP _) (OKO.noP _) (OKO.noP _) (OKO.fn e442) (OKO.fn e443) (OKO.fn e444) (OKO.fn e445) (OKO.fn e446) (OKO.fn e447)
noncomputable def ta28 : FA := .mk (some x448) none (some (.prim pIndexByteString)) (some x451) none none none none none none none none none none none none
theorem oa28 {gl : GlF} (hT : TabG Go.Proofs.Tryz.prog gl "internal/strconv.uint64pow10" .u64 Lib.pow10Tab) : OKA Go.Proofs.Tryz.prog (rhoS gl) B 448 ta28 := okA_mk (OKO.fn e448) OKO.no (OKO.pr (@indexByteString_ok Go.Proofs.Tryz.prog (rhoS gl) B 450 bare450)) (OKO.fn e451) OKO.no OKO.no OKO.no OKO.no OKO.no OKO.no OKO.no OKO.no OKO.no OKO.no OKO.no OKO.no
noncomputable def ta29 : FA := .mk none none (some x466) (some x467) (some x468) (some x469) none (some x471) (some x472) (some x473) (some x474) (some x475) none (some x477) none none
theorem oa29 {gl : GlF} (hT : TabG Go.Proofs.Tryz.prog gl "internal/strconv.uint64pow10" .u64 Lib.pow10Tab) : OKA Go.Proofs.Tryz.prog (rhoS gl) B 464 ta29 := okA_mk OKO.no OKO.no (OKO.fn e466) (OKO.fn e467) (OKO.apE (ApEnt.gl e468)) (OKO.fn e469) OKO.no (OKO.fn e471) (OKO.fn e472) (OKO.fn e473) (OKO.fn e474) (OKO.fn e475) OKO.no (OKO.fn e477) OKO.no OKO.no
noncomputable def ta30 : FA := .mk none (some x481) (some x482) (some x483) (some (.prim pCountString)) (some (.prim (noFn "function 485"))) (some (.prim (noFn "function 486"))) (some x487) (some x488) (some x489) none none none none none (some x495)
theorem oa30 {gl : GlF} (hT : TabG Go.Proofs.Tryz.prog gl "internal/strconv.uint64pow10" .u64 Lib.pow10Tab) : OKA Go.Proofs.Tryz.prog (rhoS gl) B 480 ta30 := okA_mk OKO.no (OKO.fn e481) (OKO.fn e482) (OKO.fn e483) (OKO.pr (@countString_ok Go.Proofs.Tryz.prog (rhoS gl) B 484 bare484)) (OKO.noP _) (OKO.noP _) (OKO.fn e487) (OKO.fn e488) (OKO.fn e489) OKO.no OKO.no OKO.no OKO.no OKO.no (OKO.fn e495)
noncomputable def ta31 : FA := .mk (some (.prim (noFn "function 496"))) (some (.prim (noFn "function 497"))) (some (.prim (noFn "function 498"))) (some (.prim (noFn "function 499"))) (some (.prim (noFn "function 500"))) (some (.prim (noFn "function 501"))) (some (.prim (noFn "function 502"))) (some x503) (some x504) none (some x506) none none none none (some x511)
theorem oa31 {gl : GlF} (hT : TabG Go.Proofs.Tryz.prog gl "internal/strconv.uint64pow10" .u64 Lib.pow10Tab) : OKA Go.Proofs.Tryz.prog (rhoS gl) B 496 ta31 := okA_mk (OKO.noP _) (OKO.noP _) (OKO.noP _) (OKO.noP _) (OKO.noP _) (OKO.noP _) (OKO.noP _) (OKO.fn e503) (OKO.fn e504) OKO.no (OKO.fn e506) OKO.no OKO.no OKO.no OKO.no (OKO.fn e511)
noncomputable def tb0 : FB := .mk ta0 ta1 ta2 ta3 ta4 ta5 ta6 ta7 ta8 ta9 ta10 ta11 ta12 ta13 ta14 ta15
theorem ob0 {gl : GlF} (hT : TabG Go.Proofs.Tryz.prog gl "internal/strconv.uint64pow10" .u64 Lib.pow10Tab) : OKB Go.Proofs.Tryz.prog (rhoS gl) B 0 tb0 := okB_mk (oa0 hT) (oa1 hT) (oa2 hT) (oa3 hT) (oa4 hT) (oa5 hT) (oa6 hT) (oa7 hT) (oa8 hT) (oa9 hT) (oa10 hT) (oa11 hT) (oa12 hT) (oa13 hT) (oa14 hT) (oa15 hT)
noncomputable def tb1 : FB := .mk ta16 ta17 ta18 ta19 ta20 ta21 ta22 ta23 ta24 ta25 ta26 ta27 ta28 ta29 ta30 ta31
theorem ob1 {gl : GlF} (hT : TabG Go.Proofs.Tryz.prog gl "internal/strconv.uint64pow10" .u64 Lib.pow10Tab) : OKB Go.Proofs.Tryz.prog (rhoS gl) B 256 tb1 := okB_mk (oa16 hT) (oa17 hT) (oa18 hT) (oa19 hT) (oa20 hT) (oa21 hT) (oa22 hT) (oa23 hT) (oa24 hT) (oa25 hT) (oa26 hT) (oa27 hT) (oa28 hT) (oa29 hT) (oa30 hT) (oa31 hT)
noncomputable def tab : FC := .mk tb0 tb1 noB noB noB noB noB noB noB noB noB noB noB noB noB noB
theorem tab_ok {gl : GlF} (hT : TabG Go.Proofs.Tryz.prog gl "internal/strconv.uint64pow10" .u64 Lib.pow10Tab) (B : Nat) : TabOK Go.Proofs.Tryz.prog (rhoS gl) B tab := .mkG (okC_mk (ob0 hT) (ob1 hT) okB_no okB_no okB_no okB_no okB_no okB_no okB_no okB_no okB_no okB_no okB_no okB_no okB_no) (ha_cons ⟨x271, by kernel_rfl, ApEnt.gl e271⟩ (ha_cons ⟨x305, by kernel_rfl, ApEnt.gl e305⟩ (ha_cons ⟨x374, by kernel_rfl, ApEnt.gl e374⟩ (ha_cons ⟨x468, by kernel_rfl, ApEnt.gl e468⟩ ha_nil))))
end Go.Ev.YtdeehihoficcfaaGreatDoor
