/- The table of the functions. -/
import Derived.Test.YtnelgnghdioapaaGreatDoorCF0
import Derived.Test.YtnelgnghdioapaaGreatDoorCF1
import Derived.Test.YtnelgnghdioapaaGreatDoorCF2
import Derived.Test.YtnelgnghdioapaaGreatDoorCF3
import Derived.Test.YtnelgnghdioapaaGreatDoorCF4
import Derived.Test.YtnelgnghdioapaaGreatDoorCF5
import Derived.Test.YtnelgnghdioapaaGreatDoorCF6
import Derived.Test.YtnelgnghdioapaaGreatDoorCF7
import Derived.Test.YtnelgnghdioapaaGreatDoorCEv4
import Derived.Test.YtnelgnghdioapaaGreatDoorCS
import Derived.KernelRfl
namespace Go.Ev.YtnelgnghdioapaaGreatDoor
open Go Go.Ev
set_option linter.unusedVariables false
set_option maxRecDepth 100000

theorem bare270:Bare Go.Proofs.Tryz.prog 270 Extern.MapsClone.clone := ⟨Go.Proofs.Tryz.f270, Go.Proofs.Tryz.func270, by kernel_rfl, by kernel_rfl, by kernel_rfl, by kernel_rfl⟩
theorem bare425:Bare Go.Proofs.Tryz.prog 425 Extern.BytealgIndexByte.indexByte := ⟨Go.Proofs.Tryz.f425, Go.Proofs.Tryz.func425, by kernel_rfl, by kernel_rfl, by kernel_rfl, by kernel_rfl⟩
theorem bare495:Bare Go.Proofs.Tryz.prog 495 Extern.BytealgCount.count := ⟨Go.Proofs.Tryz.f495, Go.Proofs.Tryz.func495, by kernel_rfl, by kernel_rfl, by kernel_rfl, by kernel_rfl⟩
def nren:Shelf.Ren := { f := fun x => match x with | 129 => 262 | 284 => 264 | 317 => 346 | 318 => 347 | _ => 0, t := fun x => match x with | 0 => 0 | 3 => 3 | 4 => 4 | 5 => 5 | 9 => 9 | 46 => 309 | 53 => 83 | 212 => 435 | _ => 0, g := fun _ => 0 }
theorem nlay:Go.Proofs.LaysM.n284 Go.Proofs.Tryz.prog nren where
  mixed := by kernel_rfl
  f129 := Go.Proofs.Tryz.func262.trans (by kernel_rfl)
  f284 := Go.Proofs.Tryz.func264.trans (by kernel_rfl)
  f317 := Go.Proofs.Tryz.func346.trans (by kernel_rfl)
  f318 := Go.Proofs.Tryz.func347.trans (by kernel_rfl)
  t0 := Go.Proofs.Tryz.underlying0
  a0 := Go.Proofs.Tryz.isAgg0
  z0 := Go.Proofs.Tryz.sizeOf0
  v0 := Go.Proofs.Tryz.zeroValue0
  i0 := by kernel_rfl
  t3 := Go.Proofs.Tryz.underlying3
  a3 := Go.Proofs.Tryz.isAgg3
  z3 := Go.Proofs.Tryz.sizeOf3
  v3 := Go.Proofs.Tryz.zeroValue3
  i3 := by kernel_rfl
  t4 := Go.Proofs.Tryz.underlying4
  a4 := Go.Proofs.Tryz.isAgg4
  z4 := Go.Proofs.Tryz.sizeOf4
  v4 := Go.Proofs.Tryz.zeroValue4
  i4 := by kernel_rfl
  t5 := Go.Proofs.Tryz.underlying5
  a5 := Go.Proofs.Tryz.isAgg5
  z5 := Go.Proofs.Tryz.sizeOf5
  v5 := Go.Proofs.Tryz.zeroValue5
  i5 := by kernel_rfl
  t9 := Go.Proofs.Tryz.underlying9
  a9 := Go.Proofs.Tryz.isAgg9
  z9 := Go.Proofs.Tryz.sizeOf9
  v9 := Go.Proofs.Tryz.zeroValue9
  i9 := by kernel_rfl
  t46 := Go.Proofs.Tryz.underlying309
  a46 := Go.Proofs.Tryz.isAgg309
  z46 := Go.Proofs.Tryz.sizeOf309
  v46 := Go.Proofs.Tryz.zeroValue309
  i46 := by kernel_rfl
  t53 := Go.Proofs.Tryz.underlying83
  a53 := Go.Proofs.Tryz.isAgg83
  z53 := Go.Proofs.Tryz.sizeOf83
  v53 := Go.Proofs.Tryz.zeroValue83
  i53 := by kernel_rfl
  t212 := Go.Proofs.Tryz.underlying435
  a212 := Go.Proofs.Tryz.isAgg435
  z212 := Go.Proofs.Tryz.sizeOf435
  v212 := Go.Proofs.Tryz.zeroValue435
  i212 := by kernel_rfl
  g17 := by kernel_rfl
  m17 := by kernel_rfl
theorem digits264:NV Go.Proofs.Tryz.prog 264 := fun u h1 h2 w ht => Go.Proofs.Any.internal_strconv_numDigits nlay u h1 h2 w ht
noncomputable abbrev rhoS (gl:Cd):Env := KB Go.Proofs.Tryz.prog [225, 350, 411, 457, 516] gl
theorem oneS {gl:Cd}:Bo (rhoS gl) := Xe
abbrev HT (gl:Cd):Prop := OV PP gl "internal/strconv.uint64pow10" .u64 Lib.pow10Tab
variable {B:Nat}
namespace Z
noncomputable def ta0:FA := .mk none none none none (some x4) none none none none none (some x10) (some x11) (some x12) (some x13) (some x14) (some x15)
theorem oa0 {gl:Cd} (hT:HT gl):Cf PP (rhoS gl) B 0 ta0 := AS Ae.no Ae.no Ae.no Ae.no (Ae.fn e4) Ae.no Ae.no Ae.no Ae.no Ae.no (Ae.fn e10) (Ae.fn e11) (Ae.fn e12) (Ae.fn e13) (Ae.fn e14) (Ae.fn e15)
noncomputable def ta1:FA := .mk (some x16) (some x17) (some x18) (some x19) (some x20) (some x21) (some x22) (some x23) none (some x25) none (some x27) (some x28) (some x29) none (some x31)
theorem oa1 {gl:Cd} (hT:HT gl):Cf PP (rhoS gl) B 16 ta1 := AS (Ae.fn e16) (Ae.fn e17) (Ae.fn e18) (Ae.fn e19) (Ae.fn e20) (Ae.fn e21) (Ae.fn e22) (Ae.fn e23) Ae.no (Ae.fn e25) Ae.no (Ae.fn e27) (Ae.fn e28) (Ae.fn e29) Ae.no (Ae.fn e31)
noncomputable def ta2:FA := .mk (some x32) none (some x34) (some x35) (some x36) none (some x38) (some x39) (some x40) (some x41) (some x42) (some x43) (some x44) (some x45) (some x46) (some x47)
theorem oa2 {gl:Cd} (hT:HT gl):Cf PP (rhoS gl) B 32 ta2 := AS (Ae.fn e32) Ae.no (Ae.fn e34) (Ae.fn e35) (Ae.fn e36) Ae.no (Ae.fn e38) (Ae.fn e39) (Ae.fn e40) (Ae.fn e41) (Ae.fn e42) (Ae.fn e43) (Ae.fn e44) (Ae.fn e45) (Ae.fn e46) (Ae.fn e47)
noncomputable def ta3:FA := .mk (some x48) (some x49) (some x50) (some x51) (some x52) none (some x54) (some x55) (some x56) none (some x58) (some x59) (some x60) (some x61) (some x62) (some x63)
theorem oa3 {gl:Cd} (hT:HT gl):Cf PP (rhoS gl) B 48 ta3 := AS (Ae.fn e48) (Ae.fn e49) (Ae.fn e50) (Ae.fn e51) (Ae.fn e52) Ae.no (Ae.fn e54) (Ae.fn e55) (Ae.fn e56) Ae.no (Ae.fn e58) (Ae.fn e59) (Ae.fn e60) (Ae.fn e61) (Ae.fn e62) (Ae.fn e63)
noncomputable def ta4:FA := .mk (some x64) (some x65) (some x66) (some x67) (some x68) (some x69) (some x70) (some x71) (some x72) none none (some x75) (some x76) (some x77) (some x78) (some x79)
theorem oa4 {gl:Cd} (hT:HT gl):Cf PP (rhoS gl) B 64 ta4 := AS (Ae.fn e64) (Ae.fn e65) (Ae.fn e66) (Ae.fn e67) (Ae.fn e68) (Ae.fn e69) (Ae.fn e70) (Ae.fn e71) (Ae.fn e72) Ae.no Ae.no (Ae.fn e75) (Ae.fn e76) (Ae.fn e77) (Ae.fn e78) (Ae.fn e79)
noncomputable def ta5:FA := .mk (some x80) (some x81) (some x82) (some x83) (some x84) (some x85) (some (x86.toBr 400)) (some x87) (some x88) (some x89) (some x90) (some x91) (some x92) (some x93) (some x94) (some x95)
theorem oa5 {gl:Cd} (hT:HT gl):Cf PP (rhoS gl) B 80 ta5 := AS (Ae.fn e80) (Ae.fn e81) (Ae.fn e82) (Ae.fn e83) (Ae.fn e84) (Ae.fn e85) (Ae.brX e86 ⟨_, _, _, rfl⟩) (Ae.fn e87) (Ae.fn e88) (Ae.fn e89) (Ae.fn e90) (Ae.fn e91) (Ae.fn e92) (Ae.fn e93) (Ae.fn e94) (Ae.fn e95)
noncomputable def ta6:FA := .mk (some x96) none none none none none (some x102) (some x103) (some x104) (some x105) (some x106) (some x107) (some x108) (some x109) (some x110) (some x111)
theorem oa6 {gl:Cd} (hT:HT gl):Cf PP (rhoS gl) B 96 ta6 := AS (Ae.fn e96) Ae.no Ae.no Ae.no Ae.no Ae.no (Ae.fn e102) (Ae.fn e103) (Ae.fn e104) (Ae.fn e105) (Ae.fn e106) (Ae.fn e107) (Ae.fn e108) (Ae.fn e109) (Ae.fn e110) (Ae.fn e111)
noncomputable def ta7:FA := .mk (some x112) (some (x113.toBr 400)) (some x114) (some x115) (some x116) (some x117) (some x118) (some x119) (some x120) (some x121) (some x122) (some x123) (some x124) (some x125) (some x126) (some x127)
theorem oa7 {gl:Cd} (hT:HT gl):Cf PP (rhoS gl) B 112 ta7 := AS (Ae.fn e112) (Ae.brX e113 ⟨_, _, _, rfl⟩) (Ae.fn e114) (Ae.fn e115) (Ae.fn e116) (Ae.fn e117) (Ae.fn e118) (Ae.fn e119) (Ae.fn e120) (Ae.fn e121) (Ae.fn e122) (Ae.fn e123) (Ae.fn e124) (Ae.fn e125) (Ae.fn e126) (Ae.fn e127)
noncomputable def ta8:FA := .mk (some x128) (some x129) (some x130) (some x131) (some x132) (some x133) (some x134) none (some x136) (some x137) (some x138) (some x139) (some x140) (some x141) (some x142) (some x143)
theorem oa8 {gl:Cd} (hT:HT gl):Cf PP (rhoS gl) B 128 ta8 := AS (Ae.fn e128) (Ae.fn e129) (Ae.fn e130) (Ae.fn e131) (Ae.fn e132) (Ae.fn e133) (Ae.fn e134) Ae.no (Ae.fn e136) (Ae.fn e137) (Ae.fn e138) (Ae.fn e139) (Ae.fn e140) (Ae.fn e141) (Ae.fn e142) (Ae.fn e143)
noncomputable def ta9:FA := .mk (some x144) (some x145) (some x146) (some x147) (some x148) (some x149) (some x150) (some (.prim (AQ ""))) (some x152) (some x153) (some x154) (some x155) (some x156) (some x157) (some x158) (some x159)
theorem oa9 {gl:Cd} (hT:HT gl):Cf PP (rhoS gl) B 144 ta9 := AS (Ae.fn e144) (Ae.fn e145) (Ae.fn e146) (Ae.fn e147) (Ae.fn e148) (Ae.fn e149) (Ae.fn e150) (Ae.noP _) (Ae.fn e152) (Ae.fn e153) (Ae.fn e154) (Ae.fn e155) (Ae.fn e156) (Ae.fn e157) (Ae.fn e158) (Ae.fn e159)
noncomputable def ta10:FA := .mk (some x160) (some x161) (some x162) (some x163) (some x164) (some x165) (some x166) (some x167) (some x168) (some x169) none none none none (some x174) (some x175)
theorem oa10 {gl:Cd} (hT:HT gl):Cf PP (rhoS gl) B 160 ta10 := AS (Ae.fn e160) (Ae.fn e161) (Ae.fn e162) (Ae.fn e163) (Ae.fn e164) (Ae.fn e165) (Ae.fn e166) (Ae.fn e167) (Ae.fn e168) (Ae.fn e169) Ae.no Ae.no Ae.no Ae.no (Ae.fn e174) (Ae.fn e175)
noncomputable def ta11:FA := .mk (some x176) (some x177) (some x178) (some x179) (some x180) (some x181) (some x182) (some x183) (some x184) (some x185) (some x186) (some x187) (some x188) (some x189) (some x190) (some x191)
theorem oa11 {gl:Cd} (hT:HT gl):Cf PP (rhoS gl) B 176 ta11 := AS (Ae.fn e176) (Ae.fn e177) (Ae.fn e178) (Ae.fn e179) (Ae.fn e180) (Ae.fn e181) (Ae.fn e182) (Ae.fn e183) (Ae.fn e184) (Ae.fn e185) (Ae.fn e186) (Ae.fn e187) (Ae.fn e188) (Ae.fn e189) (Ae.fn e190) (Ae.fn e191)
noncomputable def ta12:FA := .mk (some x192) (some x193) (some x194) (some x195) (some x196) (some x197) (some x198) (some (x199.toBr 400)) (some x200) (some x201) (some x202) (some x203) (some (.prim Kt)) (some x205) (some x206) (some x207)
theorem oa12 {gl:Cd} (hT:HT gl):Cf PP (rhoS gl) B 192 ta12 := AS (Ae.fn e192) (Ae.fn e193) (Ae.fn e194) (Ae.fn e195) (Ae.fn e196) (Ae.fn e197) (Ae.fn e198) (Ae.brX e199 ⟨_, _, _, rfl⟩) (Ae.fn e200) (Ae.fn e201) (Ae.fn e202) (Ae.fn e203) (Ae.pr (NS (g := 270) (by kernel_rfl) bare270)) (Ae.fn e205) (Ae.fn e206) (Ae.fn e207)
noncomputable def ta13:FA := .mk (some x208) (some x209) (some (x210.toBr 400)) (some x211) (some x212) (some x213) (some x214) (some x215) (some x216) (some x217) (some x218) (some x219) (some x220) (some (.prim (AQ ""))) (some x222) (some x223)
theorem oa13 {gl:Cd} (hT:HT gl):Cf PP (rhoS gl) B 208 ta13 := AS (Ae.fn e208) (Ae.fn e209) (Ae.brX e210 ⟨_, _, _, rfl⟩) (Ae.fn e211) (Ae.fn e212) (Ae.fn e213) (Ae.fn e214) (Ae.fn e215) (Ae.fn e216) (Ae.fn e217) (Ae.fn e218) (Ae.fn e219) (Ae.fn e220) (Ae.noP _) (Ae.fn e222) (Ae.fn e223)
noncomputable def ta14:FA := .mk (some x224) (some x225) (some x226) (some x227) (some x228) (some (.prim (AQ ""))) (some x230) (some x231) (some x232) (some x233) (some x234) (some x235) (some (.prim (AQ ""))) (some x237) (some (.prim (AQ ""))) (some x239)
theorem oa14 {gl:Cd} (hT:HT gl):Cf PP (rhoS gl) B 224 ta14 := AS (Ae.fn e224) (Ae.apE (BP.gl e225)) (Ae.fn e226) (Ae.fn e227) (Ae.fn e228) (Ae.noP _) (Ae.fn e230) (Ae.fn e231) (Ae.fn e232) (Ae.fn e233) (Ae.fn e234) (Ae.fn e235) (Ae.noP _) (Ae.fn e237) (Ae.noP _) (Ae.fn e239)
noncomputable def ta15:FA := .mk (some x240) (some (.prim (AQ ""))) (some x242) (some x243) (some x244) none (some x246) (some x247) (some x248) (some x249) (some x250) (some x251) (some x252) (some x253) (some (.prim (AQ ""))) (some (.prim (AQ "")))
theorem oa15 {gl:Cd} (hT:HT gl):Cf PP (rhoS gl) B 240 ta15 := AS (Ae.fn e240) (Ae.noP _) (Ae.fn e242) (Ae.fn e243) (Ae.fn e244) Ae.no (Ae.fn e246) (Ae.fn e247) (Ae.fn e248) (Ae.fn e249) (Ae.fn e250) (Ae.fn e251) (Ae.fn e252) (Ae.fn e253) (Ae.noP _) (Ae.noP _)
noncomputable def ta16:FA := .mk (some (.prim (AQ ""))) (some (.prim (AQ ""))) (some (.prim (AQ ""))) (some (.prim (AQ ""))) (some (.prim (AQ ""))) (some x261) (some x262) (some x263) (some (.prim Il)) (some x265) (some (.prim (AQ ""))) (some x267) (some x268) (some x269) none (some x271)
theorem oa16 {gl:Cd} (hT:HT gl):Cf PP (rhoS gl) B 256 ta16 := AS (Ae.noP _) (Ae.noP _) (Ae.noP _) (Ae.noP _) (Ae.noP _) (Ae.fn e261) (Ae.fn e262) (Ae.fn e263) (Ae.pr (@Lu Go.Proofs.Tryz.prog (rhoS gl) B 264 Go.Proofs.Tryz.f264 gl Go.Proofs.Tryz.func264 (by kernel_rfl) (by kernel_rfl) digits264 rfl hT)) (Ae.fn e265) (Ae.noP _) (Ae.fn e267) (Ae.fn e268) (Ae.fn e269) Ae.no (Ae.fn e271)
noncomputable def ta17:FA := .mk (some (.prim (AQ ""))) (some (.prim (AQ ""))) (some (.prim (AQ ""))) (some (.prim (AQ ""))) (some (.prim (AQ ""))) (some (.prim (AQ ""))) (some (.prim (AQ ""))) (some x279) (some (x280.toBr 400)) (some x281) (some x282) (some x283) (some x284) (some x285) (some (.prim (AQ ""))) (some (.prim (AQ "")))
theorem oa17 {gl:Cd} (hT:HT gl):Cf PP (rhoS gl) B 272 ta17 := AS (Ae.noP _) (Ae.noP _) (Ae.noP _) (Ae.noP _) (Ae.noP _) (Ae.noP _) (Ae.noP _) (Ae.fn e279) (Ae.brX e280 ⟨_, _, _, rfl⟩) (Ae.fn e281) (Ae.fn e282) (Ae.fn e283) (Ae.fn e284) (Ae.fn e285) (Ae.noP _) (Ae.noP _)
noncomputable def ta18:FA := .mk (some x288) (some x289) (some x290) (some x291) (some x292) (some x293) (some x294) (some (.prim (AQ ""))) (some (.prim (AQ ""))) (some (.prim (AQ ""))) (some (.prim (AQ ""))) (some (.prim (AQ ""))) (some x300) (some (.prim (AQ ""))) (some (.prim (AQ ""))) (some x303)
theorem oa18 {gl:Cd} (hT:HT gl):Cf PP (rhoS gl) B 288 ta18 := AS (Ae.fn e288) (Ae.fn e289) (Ae.fn e290) (Ae.fn e291) (Ae.fn e292) (Ae.fn e293) (Ae.fn e294) (Ae.noP _) (Ae.noP _) (Ae.noP _) (Ae.noP _) (Ae.noP _) (Ae.fn e300) (Ae.noP _) (Ae.noP _) (Ae.fn e303)
noncomputable def ta19:FA := .mk (some x304) (some (.prim (AQ ""))) (some x306) (some x307) (some x308) (some x309) (some x310) (some (.prim (AQ ""))) (some x312) (some x313) (some x314) (some x315) (some (.prim (AQ ""))) (some x317) (some x318) (some x319)
theorem oa19 {gl:Cd} (hT:HT gl):Cf PP (rhoS gl) B 304 ta19 := AS (Ae.fn e304) (Ae.noP _) (Ae.fn e306) (Ae.fn e307) (Ae.fn e308) (Ae.fn e309) (Ae.fn e310) (Ae.noP _) (Ae.fn e312) (Ae.fn e313) (Ae.fn e314) (Ae.fn e315) (Ae.noP _) (Ae.fn e317) (Ae.fn e318) (Ae.fn e319)
noncomputable def ta20:FA := .mk none (some (.prim (AQ ""))) (some x322) (some x323) none (some x325) (some x326) (some x327) (some x328) (some x329) none (some x331) (some x332) (some (.prim (AQ ""))) (some (.prim (AQ ""))) (some (.prim (AQ "")))
theorem oa20 {gl:Cd} (hT:HT gl):Cf PP (rhoS gl) B 320 ta20 := AS Ae.no (Ae.noP _) (Ae.fn e322) (Ae.fn e323) Ae.no (Ae.fn e325) (Ae.fn e326) (Ae.fn e327) (Ae.fn e328) (Ae.fn e329) Ae.no (Ae.fn e331) (Ae.fn e332) (Ae.noP _) (Ae.noP _) (Ae.noP _)
noncomputable def ta21:FA := .mk (some (.prim (AQ ""))) (some (.prim (AQ ""))) (some x338) (some (.prim (AQ ""))) (some (.prim (AQ ""))) none none none none none none none none none (some x350) none
theorem oa21 {gl:Cd} (hT:HT gl):Cf PP (rhoS gl) B 336 ta21 := AS (Ae.noP _) (Ae.noP _) (Ae.fn e338) (Ae.noP _) (Ae.noP _) Ae.no Ae.no Ae.no Ae.no Ae.no Ae.no Ae.no Ae.no Ae.no (Ae.apE (BP.gl e350)) Ae.no
noncomputable def ta22:FA := .mk none none (some x354) (some x355) (some x356) (some x357) (some x358) (some (x359.toBr 400)) (some x360) (some (.prim (AQ ""))) none none none none none (some x367)
theorem oa22 {gl:Cd} (hT:HT gl):Cf PP (rhoS gl) B 352 ta22 := AS Ae.no Ae.no (Ae.fn e354) (Ae.fn e355) (Ae.fn e356) (Ae.fn e357) (Ae.fn e358) (Ae.brX e359 ⟨_, _, _, rfl⟩) (Ae.fn e360) (Ae.noP _) Ae.no Ae.no Ae.no Ae.no Ae.no (Ae.fn e367)
noncomputable def ta23:FA := .mk (some x368) (some x369) (some x370) (some (.prim (AQ ""))) (some (.prim (AQ ""))) (some (.prim (AQ ""))) (some x374) (some x375) none none none (some x379) (some x380) (some x381) (some x382) (some x383)
theorem oa23 {gl:Cd} (hT:HT gl):Cf PP (rhoS gl) B 368 ta23 := AS (Ae.fn e368) (Ae.fn e369) (Ae.fn e370) (Ae.noP _) (Ae.noP _) (Ae.noP _) (Ae.fn e374) (Ae.fn e375) Ae.no Ae.no Ae.no (Ae.fn e379) (Ae.fn e380) (Ae.fn e381) (Ae.fn e382) (Ae.fn e383)
noncomputable def ta24:FA := .mk (some x384) (some x385) (some x386) (some x387) (some x388) (some x389) (some x390) (some x391) (some x392) (some x393) (some x394) (some x395) none none (some x398) (some x399)
theorem oa24 {gl:Cd} (hT:HT gl):Cf PP (rhoS gl) B 384 ta24 := AS (Ae.fn e384) (Ae.fn e385) (Ae.fn e386) (Ae.fn e387) (Ae.fn e388) (Ae.fn e389) (Ae.fn e390) (Ae.fn e391) (Ae.fn e392) (Ae.fn e393) (Ae.fn e394) (Ae.fn e395) Ae.no Ae.no (Ae.fn e398) (Ae.fn e399)
noncomputable def ta25:FA := .mk (some x400) (some x401) (some x402) none none none (some x406) none none none none (some x411) (some x412) (some x413) (some x414) (some x415)
theorem oa25 {gl:Cd} (hT:HT gl):Cf PP (rhoS gl) B 400 ta25 := AS (Ae.fn e400) (Ae.fn e401) (Ae.fn e402) Ae.no Ae.no Ae.no (Ae.fn e406) Ae.no Ae.no Ae.no Ae.no (Ae.apE (BP.gl e411)) (Ae.fn e412) (Ae.fn e413) (Ae.fn e414) (Ae.fn e415)
noncomputable def ta26:FA := .mk (some x416) none none none none none (some x422) (some x423) (some x424) (some (.prim DL)) none none (some x428) (some x429) (some (x430.toBr 400)) (some x431)
theorem oa26 {gl:Cd} (hT:HT gl):Cf PP (rhoS gl) B 416 ta26 := AS (Ae.fn e416) Ae.no Ae.no Ae.no Ae.no Ae.no (Ae.fn e422) (Ae.fn e423) (Ae.fn e424) (Ae.pr (@ED Go.Proofs.Tryz.prog (rhoS gl) B 425 bare425)) Ae.no Ae.no (Ae.fn e428) (Ae.fn e429) (Ae.brX e430 ⟨_, _, _, rfl⟩) (Ae.fn e431)
noncomputable def ta27:FA := .mk (some x432) (some x433) (some x434) (some x435) (some (.prim (AQ ""))) (some x437) (some x438) (some x439) (some x440) (some x441) (some x442) (some (.prim (AQ ""))) (some x444) (some (.prim (AQ ""))) none (some x447)
theorem oa27 {gl:Cd} (hT:HT gl):Cf PP (rhoS gl) B 432 ta27 := AS (Ae.fn e432) (Ae.fn e433) (Ae.fn e434) (Ae.fn e435) (Ae.noP _) (Ae.fn e437) (Ae.fn e438) (Ae.fn e439) (Ae.fn e440) (Ae.fn e441) (Ae.fn e442) (Ae.noP _) (Ae.fn e444) (Ae.noP _) Ae.no (Ae.fn e447)
noncomputable def ta28:FA := .mk none (some x449) (some (.prim (AQ ""))) (some (.prim (AQ ""))) (some (.prim (AQ ""))) (some (.prim (AQ ""))) (some (.prim (AQ ""))) (some (.prim (AQ ""))) (some (.prim (AQ ""))) (some x457) (some x458) none none none none (some x463)
theorem oa28 {gl:Cd} (hT:HT gl):Cf PP (rhoS gl) B 448 ta28 := AS Ae.no (Ae.fn e449) (Ae.noP _) (Ae.noP _) (Ae.noP _) (Ae.noP _) (Ae.noP _) (Ae.noP _) (Ae.noP _) (Ae.apE (BP.gl e457)) (Ae.fn e458) Ae.no Ae.no Ae.no Ae.no (Ae.fn e463)
noncomputable def ta29:FA := .mk (some x464) (some (.prim (AQ ""))) (some x466) (some x467) (some x468) (some x469) none (some x471) (some (x472.toBr 400)) (some x473) (some x474) (some x475) none none none none
theorem oa29 {gl:Cd} (hT:HT gl):Cf PP (rhoS gl) B 464 ta29 := AS (Ae.fn e464) (Ae.noP _) (Ae.fn e466) (Ae.fn e467) (Ae.fn e468) (Ae.fn e469) Ae.no (Ae.fn e471) (Ae.brX e472 ⟨_, _, _, rfl⟩) (Ae.fn e473) (Ae.fn e474) (Ae.fn e475) Ae.no Ae.no Ae.no Ae.no
noncomputable def ta30:FA := .mk (some x480) (some (.prim (AQ ""))) (some (.prim (AQ ""))) (some (.prim (AQ ""))) (some (.prim (AQ ""))) (some (.prim (AQ ""))) (some x486) (some (.prim (AQ ""))) (some (.prim (AQ ""))) none (some x490) (some x491) (some x492) (some (.prim (AQ ""))) none (some (.prim Du))
theorem oa30 {gl:Cd} (hT:HT gl):Cf PP (rhoS gl) B 480 ta30 := AS (Ae.fn e480) (Ae.noP _) (Ae.noP _) (Ae.noP _) (Ae.noP _) (Ae.noP _) (Ae.fn e486) (Ae.noP _) (Ae.noP _) Ae.no (Ae.fn e490) (Ae.fn e491) (Ae.fn e492) (Ae.noP _) Ae.no (Ae.pr (@Gd Go.Proofs.Tryz.prog (rhoS gl) B 495 bare495))
noncomputable def ta31:FA := .mk (some (.prim (AQ ""))) (some (.prim (AQ ""))) (some x498) (some x499) (some x500) (some x501) (some x502) (some x503) none none none none (some x508) (some x509) (some x510) (some x511)
theorem oa31 {gl:Cd} (hT:HT gl):Cf PP (rhoS gl) B 496 ta31 := AS (Ae.noP _) (Ae.noP _) (Ae.fn e498) (Ae.fn e499) (Ae.fn e500) (Ae.fn e501) (Ae.fn e502) (Ae.fn e503) Ae.no Ae.no Ae.no Ae.no (Ae.fn e508) (Ae.fn e509) (Ae.fn e510) (Ae.fn e511)
noncomputable def ta32:FA := .mk none (some x513) (some x514) (some (.prim (AQ ""))) (some x516) (some x517) none (some x519) (some x520) (some x521) (some x522) none none (some x525) (some (.prim (AQ ""))) (some (.prim (AQ "")))
theorem oa32 {gl:Cd} (hT:HT gl):Cf PP (rhoS gl) B 512 ta32 := AS Ae.no (Ae.fn e513) (Ae.fn e514) (Ae.noP _) (Ae.apE (BP.gl e516)) (Ae.fn e517) Ae.no (Ae.fn e519) (Ae.fn e520) (Ae.fn e521) (Ae.fn e522) Ae.no Ae.no (Ae.fn e525) (Ae.noP _) (Ae.noP _)
noncomputable def ta33:FA := .mk (some (.prim (AQ ""))) (some (.prim (AQ ""))) (some (.prim (AQ ""))) (some x531) (some (.prim (AQ ""))) (some (.prim (AQ ""))) (some x534) (some x535) none none none none none none none none
theorem oa33 {gl:Cd} (hT:HT gl):Cf PP (rhoS gl) B 528 ta33 := AS (Ae.noP _) (Ae.noP _) (Ae.noP _) (Ae.fn e531) (Ae.noP _) (Ae.noP _) (Ae.fn e534) (Ae.fn e535) Ae.no Ae.no Ae.no Ae.no Ae.no Ae.no Ae.no Ae.no
noncomputable def tb0:FB := .mk ta0 ta1 ta2 ta3 ta4 ta5 ta6 ta7 ta8 ta9 ta10 ta11 ta12 ta13 ta14 ta15
theorem ob0 {gl:Cd} (hT:HT gl):Jw PP (rhoS gl) B 0 tb0 := IR (oa0 hT) (oa1 hT) (oa2 hT) (oa3 hT) (oa4 hT) (oa5 hT) (oa6 hT) (oa7 hT) (oa8 hT) (oa9 hT) (oa10 hT) (oa11 hT) (oa12 hT) (oa13 hT) (oa14 hT) (oa15 hT)
noncomputable def tb1:FB := .mk ta16 ta17 ta18 ta19 ta20 ta21 ta22 ta23 ta24 ta25 ta26 ta27 ta28 ta29 ta30 ta31
theorem ob1 {gl:Cd} (hT:HT gl):Jw PP (rhoS gl) B 256 tb1 := IR (oa16 hT) (oa17 hT) (oa18 hT) (oa19 hT) (oa20 hT) (oa21 hT) (oa22 hT) (oa23 hT) (oa24 hT) (oa25 hT) (oa26 hT) (oa27 hT) (oa28 hT) (oa29 hT) (oa30 hT) (oa31 hT)
noncomputable def tb2:FB := .mk ta32 ta33 Ey Ey Ey Ey Ey Ey Ey Ey Ey Ey Ey Ey Ey Ey
theorem ob2 {gl:Cd} (hT:HT gl):Jw PP (rhoS gl) B 512 tb2 := IR (oa32 hT) (oa33 hT) BE BE BE BE BE BE BE BE BE BE BE BE BE BE
noncomputable def tab:FC := .mk tb0 tb1 tb2 Hp Hp Hp Hp Hp Hp Hp Hp Hp Hp Hp Hp Hp
theorem tab_ok {gl:Cd} (hT:HT gl) (B:Nat):H3 Go.Proofs.Tryz.prog (rhoS gl) B tab := .mkG (RA (ob0 hT) (ob1 hT) (ob2 hT) C1 C1 C1 C1 C1 C1 C1 C1 C1 C1 C1 C1) (DZ ⟨x225, by kernel_rfl, BP.gl e225⟩ (DZ ⟨x350, by kernel_rfl, BP.gl e350⟩ (DZ ⟨x411, by kernel_rfl, BP.gl e411⟩ (DZ ⟨x457, by kernel_rfl, BP.gl e457⟩ (DZ ⟨x516, by kernel_rfl, BP.gl e516⟩ SX)))))
end Z
end Go.Ev.YtnelgnghdioapaaGreatDoor
