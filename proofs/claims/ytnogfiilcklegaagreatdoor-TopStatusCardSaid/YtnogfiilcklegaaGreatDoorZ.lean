/- The table of the functions. -/
import Derived.Test.YtnogfiilcklegaaGreatDoorF0
import Derived.Test.YtnogfiilcklegaaGreatDoorF1
import Derived.Test.YtnogfiilcklegaaGreatDoorF2
import Derived.Test.YtnogfiilcklegaaGreatDoorF3
import Derived.Test.YtnogfiilcklegaaGreatDoorEv4
import Derived.Test.YtnogfiilcklegaaGreatDoorS
import Derived.KernelRfl
namespace Go.Ev.YtnogfiilcklegaaGreatDoor
open Go Go.Ev
set_option linter.unusedVariables false
set_option maxRecDepth 100000

theorem bare178 : Bare Go.Proofs.Tryz.prog 178 Extern.MapsClone.clone := ⟨Go.Proofs.Tryz.f178, Go.Proofs.Tryz.func178, by kernel_rfl, by kernel_rfl, by kernel_rfl, by kernel_rfl⟩
theorem bare357 : Bare Go.Proofs.Tryz.prog 357 Extern.BytealgIndexByte.indexByte := ⟨Go.Proofs.Tryz.f357, Go.Proofs.Tryz.func357, by kernel_rfl, by kernel_rfl, by kernel_rfl, by kernel_rfl⟩
theorem bare432 : Bare Go.Proofs.Tryz.prog 432 Extern.BytealgCount.count := ⟨Go.Proofs.Tryz.f432, Go.Proofs.Tryz.func432, by kernel_rfl, by kernel_rfl, by kernel_rfl, by kernel_rfl⟩
def nren : Shelf.Ren := { f := fun x => match x with | 129 => 102 | 284 => 348 | 317 => 426 | 318 => 427 | _ => 0, t := fun x => match x with | 0 => 0 | 3 => 3 | 4 => 4 | 5 => 5 | 9 => 9 | 46 => 152 | 53 => 113 | 212 => 495 | _ => 0, g := fun _ => 1 }
theorem nlay : Go.Proofs.LaysM.n284 Go.Proofs.Tryz.prog nren where
  mixed := by kernel_rfl
  f129 := Go.Proofs.Tryz.func102.trans (by kernel_rfl)
  f284 := Go.Proofs.Tryz.func348.trans (by kernel_rfl)
  f317 := Go.Proofs.Tryz.func426.trans (by kernel_rfl)
  f318 := Go.Proofs.Tryz.func427.trans (by kernel_rfl)
  t0 := Go.Proofs.Tryz.underlying0
  a0 := Go.Proofs.Tryz.isAgg0
  z0 := Go.Proofs.Tryz.sizeOf0
  v0 := Go.Proofs.Tryz.zeroValue0
  i0 := by kernel_rfl
  t3 := Go.Proofs.Tryz.underlying3
  a3 := Go.Proofs.Tryz.isAgg3
  z3 := Go.Proofs.Tryz.sizeOf3
  v3 := Go.Proofs.Tryz.zeroValue3
  i3 := by kernel_rfl
  t4 := Go.Proofs.Tryz.underlying4
  a4 := Go.Proofs.Tryz.isAgg4
  z4 := Go.Proofs.Tryz.sizeOf4
  v4 := Go.Proofs.Tryz.zeroValue4
  i4 := by kernel_rfl
  t5 := Go.Proofs.Tryz.underlying5
  a5 := Go.Proofs.Tryz.isAgg5
  z5 := Go.Proofs.Tryz.sizeOf5
  v5 := Go.Proofs.Tryz.zeroValue5
  i5 := by kernel_rfl
  t9 := Go.Proofs.Tryz.underlying9
  a9 := Go.Proofs.Tryz.isAgg9
  z9 := Go.Proofs.Tryz.sizeOf9
  v9 := Go.Proofs.Tryz.zeroValue9
  i9 := by kernel_rfl
  t46 := Go.Proofs.Tryz.underlying152
  a46 := Go.Proofs.Tryz.isAgg152
  z46 := Go.Proofs.Tryz.sizeOf152
  v46 := Go.Proofs.Tryz.zeroValue152
  i46 := by kernel_rfl
  t53 := Go.Proofs.Tryz.underlying113
  a53 := Go.Proofs.Tryz.isAgg113
  z53 := Go.Proofs.Tryz.sizeOf113
  v53 := Go.Proofs.Tryz.zeroValue113
  i53 := by kernel_rfl
  t212 := Go.Proofs.Tryz.underlying495
  a212 := Go.Proofs.Tryz.isAgg495
  z212 := Go.Proofs.Tryz.sizeOf495
  v212 := Go.Proofs.Tryz.zeroValue495
  i212 := by kernel_rfl
  g17 := by kernel_rfl
  m17 := by kernel_rfl
theorem digits348 : DigitsFn Go.Proofs.Tryz.prog 348 := fun u h1 h2 w ht => Go.Proofs.Any.internal_strconv_numDigits nlay u h1 h2 w ht
noncomputable abbrev rhoS (gl : GlF) : Env := envGl Go.Proofs.Tryz.prog [80, 240, 479, 487] gl
theorem oneS {gl : GlF} : OneSym (rhoS gl) := oneGl
abbrev HT (gl : GlF) : Prop := TabG PP gl "internal/strconv.uint64pow10" .u64 Lib.pow10Tab
variable {B : Nat}
namespace Z
noncomputable def ta0:FA:=.mk none none none (some x3) (some x4) (some x5) (some x6) (some x7) (some x8) (some x9) (some x10) (some x11) (some x12) (some x13) (some x14) (some x15)
theorem oa0 {gl : GlF} (hT : HT gl) : OKA PP (rhoS gl) B 0 ta0:=okA_mk OKO.no OKO.no OKO.no (OKO.fn e3) (OKO.fn e4) (OKO.fn e5) (OKO.fn e6) (OKO.fn e7) (OKO.fn e8) (OKO.fn e9) (OKO.fn e10) (OKO.fn e11) (OKO.fn e12) (OKO.fn e13) (OKO.fn e14) (OKO.fn e15)
noncomputable def ta1:FA:=.mk (some x16) (some x17) (some x18) (some x19) (some x20) (some (.tree pSmall)) (some x22) (some x23) (some x24) (some x25) (some x26) (some x27) (some x28) (some x29) (some x30) (some x31)
theorem oa1 {gl : GlF} (hT : HT gl) : OKA PP (rhoS gl) B 16 ta1:=okA_mk (OKO.fn e16) (OKO.fn e17) (OKO.fn e18) (OKO.fn e19) (OKO.fn e20) (OKO.tr (small_ok Go.Proofs.Tryz.func21 (by kernel_rfl) (by kernel_rfl) small_fn)) (OKO.fn e22) (OKO.fn e23) (OKO.fn e24) (OKO.fn e25) (OKO.fn e26) (OKO.fn e27) (OKO.fn e28) (OKO.fn e29) (OKO.fn e30) (OKO.fn e31)
noncomputable def ta2:FA:=.mk (some x32) (some x33) (some x34) (some x35) (some x36) (some x37) (some x38) (some x39) (some x40) (some x41) (some x42) (some (x43.toBr 400)) (some x44) (some x45) (some x46) (some x47)
theorem oa2 {gl : GlF} (hT : HT gl) : OKA PP (rhoS gl) B 32 ta2:=okA_mk (OKO.fn e32) (OKO.fn e33) (OKO.fn e34) (OKO.fn e35) (OKO.fn e36) (OKO.fn e37) (OKO.fn e38) (OKO.fn e39) (OKO.fn e40) (OKO.fn e41) (OKO.fn e42) (OKO.brX e43 ⟨_, _, _, rfl⟩) (OKO.fn e44) (OKO.fn e45) (OKO.fn e46) (OKO.fn e47)
noncomputable def ta3:FA:=.mk (some x48) (some x49) (some x50) (some x51) (some x52) (some x53) (some x54) (some x55) (some x56) (some x57) (some x58) (some x59) (some x60) (some x61) (some x62) (some x63)
theorem oa3 {gl : GlF} (hT : HT gl) : OKA PP (rhoS gl) B 48 ta3:=okA_mk (OKO.fn e48) (OKO.fn e49) (OKO.fn e50) (OKO.fn e51) (OKO.fn e52) (OKO.fn e53) (OKO.fn e54) (OKO.fn e55) (OKO.fn e56) (OKO.fn e57) (OKO.fn e58) (OKO.fn e59) (OKO.fn e60) (OKO.fn e61) (OKO.fn e62) (OKO.fn e63)
noncomputable def ta4:FA:=.mk (some x64) (some x65) (some x66) (some x67) (some x68) (some x69) (some x70) (some x71) (some x72) (some x73) (some x74) (some x75) (some x76) (some x77) (some x78) (some x79)
theorem oa4 {gl : GlF} (hT : HT gl) : OKA PP (rhoS gl) B 64 ta4:=okA_mk (OKO.fn e64) (OKO.fn e65) (OKO.fn e66) (OKO.fn e67) (OKO.fn e68) (OKO.fn e69) (OKO.fn e70) (OKO.fn e71) (OKO.fn e72) (OKO.fn e73) (OKO.fn e74) (OKO.fn e75) (OKO.fn e76) (OKO.fn e77) (OKO.fn e78) (OKO.fn e79)
noncomputable def ta5:FA:=.mk (some x80) (some x81) (some x82) (some x83) (some x84) (some x85) (some x86) (some x87) (some x88) (some x89) (some x90) (some x91) (some x92) (some (.prim (noFn "function 93"))) (some (.prim (noFn "function 94"))) (some (.prim (noFn "function 95")))
theorem oa5 {gl : GlF} (hT : HT gl) : OKA PP (rhoS gl) B 80 ta5:=okA_mk (OKO.apE (ApEnt.gl e80)) (OKO.fn e81) (OKO.fn e82) (OKO.fn e83) (OKO.fn e84) (OKO.fn e85) (OKO.fn e86) (OKO.fn e87) (OKO.fn e88) (OKO.fn e89) (OKO.fn e90) (OKO.fn e91) (OKO.fn e92) (OKO.noP _) (OKO.noP _) (OKO.noP _)
noncomputable def ta6:FA:=.mk (some (.prim (noFn "function 96"))) (some (.prim (noFn "function 97"))) (some x98) (some (.prim (noFn "function 99"))) (some (.prim (noFn "function 100"))) (some x101) (some x102) (some x103) (some x104) (some x105) (some x106) (some (.prim (noFn "function 107"))) (some (.prim (noFn "function 108"))) (some x109) (some x110) (some (.prim (noFn "function 111")))
theorem oa6 {gl : GlF} (hT : HT gl) : OKA PP (rhoS gl) B 96 ta6:=okA_mk (OKO.noP _) (OKO.noP _) (OKO.fn e98) (OKO.noP _) (OKO.noP _) (OKO.fn e101) (OKO.fn e102) (OKO.fn e103) (OKO.fn e104) (OKO.fn e105) (OKO.fn e106) (OKO.noP _) (OKO.noP _) (OKO.fn e109) (OKO.fn e110) (OKO.noP _)
noncomputable def ta7:FA:=.mk (some (.prim (noFn "function 112"))) (some x113) (some (.prim (noFn "function 114"))) (some (.prim (noFn "function 115"))) (some x116) (some (x117.toBr 400)) (some x118) (some x119) (some x120) (some x121) (some x122) (some x123) (some x124) none none none
theorem oa7 {gl : GlF} (hT : HT gl) : OKA PP (rhoS gl) B 112 ta7:=okA_mk (OKO.noP _) (OKO.fn e113) (OKO.noP _) (OKO.noP _) (OKO.fn e116) (OKO.brX e117 ⟨_, _, _, rfl⟩) (OKO.fn e118) (OKO.fn e119) (OKO.fn e120) (OKO.fn e121) (OKO.fn e122) (OKO.fn e123) (OKO.fn e124) OKO.no OKO.no OKO.no
noncomputable def ta8:FA:=.mk none none (some x130) (some x131) (some x132) (some x133) (some x134) (some x135) (some x136) (some x137) (some (.prim pClone)) (some x139) (some (x140.toBr 400)) (some x141) none none
theorem oa8 {gl : GlF} (hT : HT gl) : OKA PP (rhoS gl) B 128 ta8:=okA_mk OKO.no OKO.no (OKO.fn e130) (OKO.fn e131) (OKO.fn e132) (OKO.fn e133) (OKO.fn e134) (OKO.fn e135) (OKO.fn e136) (OKO.fn e137) (OKO.pr (clone_ok (g := 178) (by kernel_rfl) bare178)) (OKO.fn e139) (OKO.brX e140 ⟨_, _, _, rfl⟩) (OKO.fn e141) OKO.no OKO.no
noncomputable def ta9:FA:=.mk (some x144) (some x145) (some x146) none none (some x149) (some x150) (some x151) (some x152) (some x153) (some x154) (some x155) none (some x157) (some x158) (some x159)
theorem oa9 {gl : GlF} (hT : HT gl) : OKA PP (rhoS gl) B 144 ta9:=okA_mk (OKO.fn e144) (OKO.fn e145) (OKO.fn e146) OKO.no OKO.no (OKO.fn e149) (OKO.fn e150) (OKO.fn e151) (OKO.fn e152) (OKO.fn e153) (OKO.fn e154) (OKO.fn e155) OKO.no (OKO.fn e157) (OKO.fn e158) (OKO.fn e159)
noncomputable def ta10:FA:=.mk (some x160) (some (.prim (noFn "function 161"))) (some x162) (some x163) (some x164) (some x165) (some x166) (some x167) none (some x169) (some x170) (some x171) (some x172) (some x173) (some (.prim (noFn "function 174"))) (some x175)
theorem oa10 {gl : GlF} (hT : HT gl) : OKA PP (rhoS gl) B 160 ta10:=okA_mk (OKO.fn e160) (OKO.noP _) (OKO.fn e162) (OKO.fn e163) (OKO.fn e164) (OKO.fn e165) (OKO.fn e166) (OKO.fn e167) OKO.no (OKO.fn e169) (OKO.fn e170) (OKO.fn e171) (OKO.fn e172) (OKO.fn e173) (OKO.noP _) (OKO.fn e175)
noncomputable def ta11:FA:=.mk (some x176) (some x177) none (some x179) (some x180) (some x181) none (some x183) (some x184) (some x185) (some x186) (some (.prim (noFn "function 187"))) (some x188) (some (x189.toBr 400)) none none
theorem oa11 {gl : GlF} (hT : HT gl) : OKA PP (rhoS gl) B 176 ta11:=okA_mk (OKO.fn e176) (OKO.fn e177) OKO.no (OKO.fn e179) (OKO.fn e180) (OKO.fn e181) OKO.no (OKO.fn e183) (OKO.fn e184) (OKO.fn e185) (OKO.fn e186) (OKO.noP _) (OKO.fn e188) (OKO.brX e189 ⟨_, _, _, rfl⟩) OKO.no OKO.no
noncomputable def ta12:FA:=.mk (some (.prim (noFn "function 192"))) (some x193) (some (.prim (noFn "function 194"))) (some x195) (some x196) (some x197) (some x198) (some x199) (some x200) (some x201) (some x202) (some x203) none (some x205) (some x206) (some x207)
theorem oa12 {gl : GlF} (hT : HT gl) : OKA PP (rhoS gl) B 192 ta12:=okA_mk (OKO.noP _) (OKO.fn e193) (OKO.noP _) (OKO.fn e195) (OKO.fn e196) (OKO.fn e197) (OKO.fn e198) (OKO.fn e199) (OKO.fn e200) (OKO.fn e201) (OKO.fn e202) (OKO.fn e203) OKO.no (OKO.fn e205) (OKO.fn e206) (OKO.fn e207)
noncomputable def ta13:FA:=.mk (some x208) (some x209) none none (some x212) (some x213) (some x214) (some x215) (some x216) (some x217) (some x218) (some x219) (some (.prim (noFn "function 220"))) (some (.prim (noFn "function 221"))) (some x222) (some x223)
theorem oa13 {gl : GlF} (hT : HT gl) : OKA PP (rhoS gl) B 208 ta13:=okA_mk (OKO.fn e208) (OKO.fn e209) OKO.no OKO.no (OKO.fn e212) (OKO.fn e213) (OKO.fn e214) (OKO.fn e215) (OKO.fn e216) (OKO.fn e217) (OKO.fn e218) (OKO.fn e219) (OKO.noP _) (OKO.noP _) (OKO.fn e222) (OKO.fn e223)
noncomputable def ta14:FA:=.mk (some x224) none none none (some x228) none none none none none none (some x235) (some x236) (some x237) (some x238) (some x239)
theorem oa14 {gl : GlF} (hT : HT gl) : OKA PP (rhoS gl) B 224 ta14:=okA_mk (OKO.fn e224) OKO.no OKO.no OKO.no (OKO.fn e228) OKO.no OKO.no OKO.no OKO.no OKO.no OKO.no (OKO.fn e235) (OKO.fn e236) (OKO.fn e237) (OKO.fn e238) (OKO.fn e239)
noncomputable def ta15:FA:=.mk (some x240) (some x241) (some x242) (some x243) (some x244) (some x245) (some x246) (some x247) (some x248) (some x249) (some x250) (some x251) none none (some x254) (some x255)
theorem oa15 {gl : GlF} (hT : HT gl) : OKA PP (rhoS gl) B 240 ta15:=okA_mk (OKO.apE (ApEnt.gl e240)) (OKO.fn e241) (OKO.fn e242) (OKO.fn e243) (OKO.fn e244) (OKO.fn e245) (OKO.fn e246) (OKO.fn e247) (OKO.fn e248) (OKO.fn e249) (OKO.fn e250) (OKO.fn e251) OKO.no OKO.no (OKO.fn e254) (OKO.fn e255)
noncomputable def ta16:FA:=.mk none none none (some x259) (some x260) (some x261) (some x262) (some x263) (some x264) (some x265) (some x266) (some x267) (some x268) (some x269) (some (.prim (noFn "function 270"))) (some x271)
theorem oa16 {gl : GlF} (hT : HT gl) : OKA PP (rhoS gl) B 256 ta16:=okA_mk OKO.no OKO.no OKO.no (OKO.fn e259) (OKO.fn e260) (OKO.fn e261) (OKO.fn e262) (OKO.fn e263) (OKO.fn e264) (OKO.fn e265) (OKO.fn e266) (OKO.fn e267) (OKO.fn e268) (OKO.fn e269) (OKO.noP _) (OKO.fn e271)
noncomputable def ta17:FA:=.mk (some x272) (some x273) (some x274) (some x275) (some x276) (some x277) (some x278) (some x279) (some x280) (some x281) (some x282) (some x283) none (some x285) (some x286) (some x287)
theorem oa17 {gl : GlF} (hT : HT gl) : OKA PP (rhoS gl) B 272 ta17:=okA_mk (OKO.fn e272) (OKO.fn e273) (OKO.fn e274) (OKO.fn e275) (OKO.fn e276) (OKO.fn e277) (OKO.fn e278) (OKO.fn e279) (OKO.fn e280) (OKO.fn e281) (OKO.fn e282) (OKO.fn e283) OKO.no (OKO.fn e285) (OKO.fn e286) (OKO.fn e287)
noncomputable def ta18:FA:=.mk (some x288) (some x289) (some x290) (some x291) (some x292) (some x293) (some x294) (some x295) (some (.prim (noFn "function 296"))) none none (some x299) (some x300) (some x301) (some x302) (some x303)
theorem oa18 {gl : GlF} (hT : HT gl) : OKA PP (rhoS gl) B 288 ta18:=okA_mk (OKO.fn e288) (OKO.fn e289) (OKO.fn e290) (OKO.fn e291) (OKO.fn e292) (OKO.fn e293) (OKO.fn e294) (OKO.fn e295) (OKO.noP _) OKO.no OKO.no (OKO.fn e299) (OKO.fn e300) (OKO.fn e301) (OKO.fn e302) (OKO.fn e303)
noncomputable def ta19:FA:=.mk (some x304) (some x305) (some x306) (some x307) none (some x309) (some x310) none none (some x313) (some x314) (some x315) (some x316) (some (.prim (noFn "function 317"))) (some (.prim (noFn "function 318"))) (some (.prim (noFn "function 319")))
theorem oa19 {gl : GlF} (hT : HT gl) : OKA PP (rhoS gl) B 304 ta19:=okA_mk (OKO.fn e304) (OKO.fn e305) (OKO.fn e306) (OKO.fn e307) OKO.no (OKO.fn e309) (OKO.fn e310) OKO.no OKO.no (OKO.fn e313) (OKO.fn e314) (OKO.fn e315) (OKO.fn e316) (OKO.noP _) (OKO.noP _) (OKO.noP _)
noncomputable def ta20:FA:=.mk (some (.prim (noFn "function 320"))) (some (.prim (noFn "function 321"))) (some x322) (some (.prim (noFn "function 323"))) (some (.prim (noFn "function 324"))) (some x325) (some x326) (some x327) (some x328) (some x329) (some (x330.toBr 400)) (some x331) (some x332) none (some x334) none
theorem oa20 {gl : GlF} (hT : HT gl) : OKA PP (rhoS gl) B 320 ta20:=okA_mk (OKO.noP _) (OKO.noP _) (OKO.fn e322) (OKO.noP _) (OKO.noP _) (OKO.fn e325) (OKO.fn e326) (OKO.fn e327) (OKO.fn e328) (OKO.fn e329) (OKO.brX e330 ⟨_, _, _, rfl⟩) (OKO.fn e331) (OKO.fn e332) OKO.no (OKO.fn e334) OKO.no
noncomputable def ta21:FA:=.mk none (some x337) (some x338) none (some x340) none none none (some (.prim (noFn "function 344"))) (some x345) (some x346) (some x347) (some (.prim pDigits)) (some x349) (some (.prim (noFn "function 350"))) (some (.prim (noFn "function 351")))
theorem oa21 {gl : GlF} (hT : HT gl) : OKA PP (rhoS gl) B 336 ta21:=okA_mk OKO.no (OKO.fn e337) (OKO.fn e338) OKO.no (OKO.fn e340) OKO.no OKO.no OKO.no (OKO.noP _) (OKO.fn e345) (OKO.fn e346) (OKO.fn e347) (OKO.pr (@digits_ok Go.Proofs.Tryz.prog (rhoS gl) B 348 Go.Proofs.Tryz.f348 gl Go.Proofs.Tryz.func348 (by kernel_rfl) (by kernel_rfl) digits348 rfl hT)) (OKO.fn e349) (OKO.noP _) (OKO.noP _)
noncomputable def ta22:FA:=.mk (some x352) (some x353) (some x354) (some x355) (some x356) (some (.prim pIndexByteString)) (some (.prim (noFn "function 358"))) (some x359) (some (x360.toBr 400)) (some x361) (some x362) (some x363) (some x364) (some x365) (some x366) (some x367)
theorem oa22 {gl : GlF} (hT : HT gl) : OKA PP (rhoS gl) B 352 ta22:=okA_mk (OKO.fn e352) (OKO.fn e353) (OKO.fn e354) (OKO.fn e355) (OKO.fn e356) (OKO.pr (@indexByteString_ok Go.Proofs.Tryz.prog (rhoS gl) B 357 bare357)) (OKO.noP _) (OKO.fn e359) (OKO.brX e360 ⟨_, _, _, rfl⟩) (OKO.fn e361) (OKO.fn e362) (OKO.fn e363) (OKO.fn e364) (OKO.fn e365) (OKO.fn e366) (OKO.fn e367)
noncomputable def ta23:FA:=.mk (some x368) (some x369) (some x370) (some x371) (some x372) (some x373) (some x374) (some x375) (some x376) (some x377) (some x378) (some (.prim (noFn "function 379"))) (some x380) (some x381) (some x382) (some x383)
theorem oa23 {gl : GlF} (hT : HT gl) : OKA PP (rhoS gl) B 368 ta23:=okA_mk (OKO.fn e368) (OKO.fn e369) (OKO.fn e370) (OKO.fn e371) (OKO.fn e372) (OKO.fn e373) (OKO.fn e374) (OKO.fn e375) (OKO.fn e376) (OKO.fn e377) (OKO.fn e378) (OKO.noP _) (OKO.fn e380) (OKO.fn e381) (OKO.fn e382) (OKO.fn e383)
noncomputable def ta24:FA:=.mk none none none none none none none none none none none none (some x396) (some x397) (some (.prim (noFn "function 398"))) (some (.prim (noFn "function 399")))
theorem oa24 {gl : GlF} (hT : HT gl) : OKA PP (rhoS gl) B 384 ta24:=okA_mk OKO.no OKO.no OKO.no OKO.no OKO.no OKO.no OKO.no OKO.no OKO.no OKO.no OKO.no OKO.no (OKO.fn e396) (OKO.fn e397) (OKO.noP _) (OKO.noP _)
noncomputable def ta25:FA:=.mk (some (.prim (noFn "function 400"))) (some (.prim (noFn "function 401"))) (some (.prim (noFn "function 402"))) (some (.prim (noFn "function 403"))) (some (.prim (noFn "function 404"))) (some x405) (some (x406.toBr 400)) (some x407) (some x408) (some x409) (some x410) (some x411) (some x412) none none none
theorem oa25 {gl : GlF} (hT : HT gl) : OKA PP (rhoS gl) B 400 ta25:=okA_mk (OKO.noP _) (OKO.noP _) (OKO.noP _) (OKO.noP _) (OKO.noP _) (OKO.fn e405) (OKO.brX e406 ⟨_, _, _, rfl⟩) (OKO.fn e407) (OKO.fn e408) (OKO.fn e409) (OKO.fn e410) (OKO.fn e411) (OKO.fn e412) OKO.no OKO.no OKO.no
noncomputable def ta26:FA:=.mk none none none none (some x420) (some x421) (some x422) none (some x424) (some x425) none none none none (some (.prim (noFn "function 430"))) none
theorem oa26 {gl : GlF} (hT : HT gl) : OKA PP (rhoS gl) B 416 ta26:=okA_mk OKO.no OKO.no OKO.no OKO.no (OKO.fn e420) (OKO.fn e421) (OKO.fn e422) OKO.no (OKO.fn e424) (OKO.fn e425) OKO.no OKO.no OKO.no OKO.no (OKO.noP _) OKO.no
noncomputable def ta27:FA:=.mk (some (.prim pCountString)) (some (.prim (noFn "function 433"))) (some (.prim (noFn "function 434"))) none none (some x437) (some x438) (some x439) (some x440) (some x441) (some x442) (some x443) (some x444) (some x445) (some x446) (some x447)
theorem oa27 {gl : GlF} (hT : HT gl) : OKA PP (rhoS gl) B 432 ta27:=okA_mk (OKO.pr (@countString_ok Go.Proofs.Tryz.prog (rhoS gl) B 432 bare432)) (OKO.noP _) (OKO.noP _) OKO.no OKO.no (OKO.fn e437) (OKO.fn e438) (OKO.fn e439) (OKO.fn e440) (OKO.fn e441) (OKO.fn e442) (OKO.fn e443) (OKO.fn e444) (OKO.fn e445) (OKO.fn e446) (OKO.fn e447)
noncomputable def ta28:FA:=.mk (some x448) (some x449) (some x450) (some x451) none none none none none none none (some x459) (some x460) (some x461) (some x462) (some x463)
theorem oa28 {gl : GlF} (hT : HT gl) : OKA PP (rhoS gl) B 448 ta28:=okA_mk (OKO.fn e448) (OKO.fn e449) (OKO.fn e450) (OKO.fn e451) OKO.no OKO.no OKO.no OKO.no OKO.no OKO.no OKO.no (OKO.fn e459) (OKO.fn e460) (OKO.fn e461) (OKO.fn e462) (OKO.fn e463)
noncomputable def ta29:FA:=.mk (some x464) none none none none none none (some x471) (some x472) none none none (some x476) (some x477) (some (.prim (noFn "function 478"))) (some x479)
theorem oa29 {gl : GlF} (hT : HT gl) : OKA PP (rhoS gl) B 464 ta29:=okA_mk (OKO.fn e464) OKO.no OKO.no OKO.no OKO.no OKO.no OKO.no (OKO.fn e471) (OKO.fn e472) OKO.no OKO.no OKO.no (OKO.fn e476) (OKO.fn e477) (OKO.noP _) (OKO.apE (ApEnt.gl e479))
noncomputable def ta30:FA:=.mk (some x480) (some x481) (some x482) (some x483) (some x484) none none (some x487) (some x488) (some x489) (some x490) none none none none none
theorem oa30 {gl : GlF} (hT : HT gl) : OKA PP (rhoS gl) B 480 ta30:=okA_mk (OKO.fn e480) (OKO.fn e481) (OKO.fn e482) (OKO.fn e483) (OKO.fn e484) OKO.no OKO.no (OKO.apE (ApEnt.gl e487)) (OKO.fn e488) (OKO.fn e489) (OKO.fn e490) OKO.no OKO.no OKO.no OKO.no OKO.no
noncomputable def ta31:FA:=.mk none none none none none (some x501) (some x502) none none (some x505) (some (.prim (noFn "function 506"))) (some (.prim (noFn "function 507"))) (some (.prim (noFn "function 508"))) (some (.prim (noFn "function 509"))) (some (.prim (noFn "function 510"))) (some x511)
theorem oa31 {gl : GlF} (hT : HT gl) : OKA PP (rhoS gl) B 496 ta31:=okA_mk OKO.no OKO.no OKO.no OKO.no OKO.no (OKO.fn e501) (OKO.fn e502) OKO.no OKO.no (OKO.fn e505) (OKO.noP _) (OKO.noP _) (OKO.noP _) (OKO.noP _) (OKO.noP _) (OKO.fn e511)
noncomputable def ta32:FA:=.mk (some (.prim (noFn "function 512"))) (some (.prim (noFn "function 513"))) (some x514) (some x515) (some x516) (some (.prim (noFn "function 517"))) (some (.prim (noFn "function 518"))) (some (.prim (noFn "function 519"))) (some (.prim (noFn "function 520"))) (some (.prim (noFn "function 521"))) (some (.prim (noFn "function 522"))) (some (.prim (noFn "function 523"))) (some x524) none none none
theorem oa32 {gl : GlF} (hT : HT gl) : OKA PP (rhoS gl) B 512 ta32:=okA_mk (OKO.noP _) (OKO.noP _) (OKO.fn e514) (OKO.fn e515) (OKO.fn e516) (OKO.noP _) (OKO.noP _) (OKO.noP _) (OKO.noP _) (OKO.noP _) (OKO.noP _) (OKO.noP _) (OKO.fn e524) OKO.no OKO.no OKO.no
noncomputable def ta33:FA:=.mk none (some x529) none none none none none none none none none none none none none none
theorem oa33 {gl : GlF} (hT : HT gl) : OKA PP (rhoS gl) B 528 ta33:=okA_mk OKO.no (OKO.fn e529) OKO.no OKO.no OKO.no OKO.no OKO.no OKO.no OKO.no OKO.no OKO.no OKO.no OKO.no OKO.no OKO.no OKO.no
noncomputable def tb0:FB:=.mk ta0 ta1 ta2 ta3 ta4 ta5 ta6 ta7 ta8 ta9 ta10 ta11 ta12 ta13 ta14 ta15
theorem ob0 {gl : GlF} (hT : HT gl) : OKB PP (rhoS gl) B 0 tb0:=okB_mk (oa0 hT) (oa1 hT) (oa2 hT) (oa3 hT) (oa4 hT) (oa5 hT) (oa6 hT) (oa7 hT) (oa8 hT) (oa9 hT) (oa10 hT) (oa11 hT) (oa12 hT) (oa13 hT) (oa14 hT) (oa15 hT)
noncomputable def tb1:FB:=.mk ta16 ta17 ta18 ta19 ta20 ta21 ta22 ta23 ta24 ta25 ta26 ta27 ta28 ta29 ta30 ta31
theorem ob1 {gl : GlF} (hT : HT gl) : OKB PP (rhoS gl) B 256 tb1:=okB_mk (oa16 hT) (oa17 hT) (oa18 hT) (oa19 hT) (oa20 hT) (oa21 hT) (oa22 hT) (oa23 hT) (oa24 hT) (oa25 hT) (oa26 hT) (oa27 hT) (oa28 hT) (oa29 hT) (oa30 hT) (oa31 hT)
noncomputable def tb2:FB:=.mk ta32 ta33 noA noA noA noA noA noA noA noA noA noA noA noA noA noA
theorem ob2 {gl : GlF} (hT : HT gl) : OKB PP (rhoS gl) B 512 tb2:=okB_mk (oa32 hT) (oa33 hT) okA_no okA_no okA_no okA_no okA_no okA_no okA_no okA_no okA_no okA_no okA_no okA_no okA_no okA_no
noncomputable def tab : FC := .mk tb0 tb1 tb2 noB noB noB noB noB noB noB noB noB noB noB noB noB
theorem tab_ok {gl : GlF} (hT : HT gl) (B : Nat) : TabOK Go.Proofs.Tryz.prog (rhoS gl) B tab := .mkG (okC_mk (ob0 hT) (ob1 hT) (ob2 hT) okB_no okB_no okB_no okB_no okB_no okB_no okB_no okB_no okB_no okB_no okB_no okB_no) (ha_cons ⟨x80, by kernel_rfl, ApEnt.gl e80⟩ (ha_cons ⟨x240, by kernel_rfl, ApEnt.gl e240⟩ (ha_cons ⟨x479, by kernel_rfl, ApEnt.gl e479⟩ (ha_cons ⟨x487, by kernel_rfl, ApEnt.gl e487⟩ ha_nil))))
end Z
end Go.Ev.YtnogfiilcklegaaGreatDoor
