/- The table of the functions. -/
import Derived.Test.YtijkeeoabcoidaaGreatDoorOF0
import Derived.Test.YtijkeeoabcoidaaGreatDoorOF1
import Derived.Test.YtijkeeoabcoidaaGreatDoorOF2
import Derived.Test.YtijkeeoabcoidaaGreatDoorOF3
import Derived.Test.YtijkeeoabcoidaaGreatDoorOF4
import Derived.Test.YtijkeeoabcoidaaGreatDoorOF5
import Derived.Test.YtijkeeoabcoidaaGreatDoorOF6
import Derived.Test.YtijkeeoabcoidaaGreatDoorOF7
import Derived.Test.YtijkeeoabcoidaaGreatDoorOEv5
import Derived.Test.YtijkeeoabcoidaaGreatDoorOS
import Derived.KernelRfl
namespace Go.Ev.YtijkeeoabcoidaaGreatDoor
open Go Go.Ev
set_option linter.unusedVariables false
set_option maxRecDepth 100000

theorem bare169:Bare Go.Proofs.Tryz.prog 169 Extern.MapsClone.clone := ⟨Go.Proofs.Tryz.f169, Go.Proofs.Tryz.func169, by kernel_rfl, by kernel_rfl, by kernel_rfl, by kernel_rfl⟩
theorem bare360:Bare Go.Proofs.Tryz.prog 360 Extern.BytealgIndexByte.indexByte := ⟨Go.Proofs.Tryz.f360, Go.Proofs.Tryz.func360, by kernel_rfl, by kernel_rfl, by kernel_rfl, by kernel_rfl⟩
theorem bare431:Bare Go.Proofs.Tryz.prog 431 Extern.BytealgCount.count := ⟨Go.Proofs.Tryz.f431, Go.Proofs.Tryz.func431, by kernel_rfl, by kernel_rfl, by kernel_rfl, by kernel_rfl⟩
def nren:Shelf.Ren := { f := fun x => match x with | 129 => 156 | 284 => 351 | 317 => 425 | 318 => 426 | _ => 0, t := fun x => match x with | 0 => 0 | 3 => 3 | 4 => 4 | 5 => 5 | 9 => 9 | 46 => 175 | 53 => 98 | 212 => 506 | _ => 0, g := fun _ => 1 }
theorem nlay:Go.Proofs.LaysM.n284 Go.Proofs.Tryz.prog nren where
  mixed := by kernel_rfl
  f129 := Go.Proofs.Tryz.func156.trans (by kernel_rfl)
  f284 := Go.Proofs.Tryz.func351.trans (by kernel_rfl)
  f317 := Go.Proofs.Tryz.func425.trans (by kernel_rfl)
  f318 := Go.Proofs.Tryz.func426.trans (by kernel_rfl)
  t0 := Go.Proofs.Tryz.underlying0
  a0 := Go.Proofs.Tryz.isAgg0
  z0 := Go.Proofs.Tryz.sizeOf0
  v0 := Go.Proofs.Tryz.zeroValue0
  i0 := by kernel_rfl
  t3 := Go.Proofs.Tryz.underlying3
  a3 := Go.Proofs.Tryz.isAgg3
  z3 := Go.Proofs.Tryz.sizeOf3
  v3 := Go.Proofs.Tryz.zeroValue3
  i3 := by kernel_rfl
  t4 := Go.Proofs.Tryz.underlying4
  a4 := Go.Proofs.Tryz.isAgg4
  z4 := Go.Proofs.Tryz.sizeOf4
  v4 := Go.Proofs.Tryz.zeroValue4
  i4 := by kernel_rfl
  t5 := Go.Proofs.Tryz.underlying5
  a5 := Go.Proofs.Tryz.isAgg5
  z5 := Go.Proofs.Tryz.sizeOf5
  v5 := Go.Proofs.Tryz.zeroValue5
  i5 := by kernel_rfl
  t9 := Go.Proofs.Tryz.underlying9
  a9 := Go.Proofs.Tryz.isAgg9
  z9 := Go.Proofs.Tryz.sizeOf9
  v9 := Go.Proofs.Tryz.zeroValue9
  i9 := by kernel_rfl
  t46 := Go.Proofs.Tryz.underlying175
  a46 := Go.Proofs.Tryz.isAgg175
  z46 := Go.Proofs.Tryz.sizeOf175
  v46 := Go.Proofs.Tryz.zeroValue175
  i46 := by kernel_rfl
  t53 := Go.Proofs.Tryz.underlying98
  a53 := Go.Proofs.Tryz.isAgg98
  z53 := Go.Proofs.Tryz.sizeOf98
  v53 := Go.Proofs.Tryz.zeroValue98
  i53 := by kernel_rfl
  t212 := Go.Proofs.Tryz.underlying506
  a212 := Go.Proofs.Tryz.isAgg506
  z212 := Go.Proofs.Tryz.sizeOf506
  v212 := Go.Proofs.Tryz.zeroValue506
  i212 := by kernel_rfl
  g17 := by kernel_rfl
  m17 := by kernel_rfl
theorem digits351:NG Go.Proofs.Tryz.prog 351 := fun u h1 h2 w ht => Go.Proofs.Any.internal_strconv_numDigits nlay u h1 h2 w ht
noncomputable abbrev rhoS (gl:Cq):Env := K9 Go.Proofs.Tryz.prog [90, 255, 473, 482] gl
theorem oneS {gl:Cq}:Bq (rhoS gl) := Xj
abbrev HT (gl:Cq):Prop := P8 PP gl "internal/strconv.uint64pow10" .u64 Lib.pow10Tab
variable {B:Nat}
namespace Z
noncomputable def ta0:FA := .mk none none none (some x3) none none (some x6) (some (.tree N1)) (some x8) (some x9) (some x10) (some x11) (some x12) (some x13) (some x14) (some x15)
theorem oa0 {gl:Cq} (hT:HT gl):Cm PP (rhoS gl) B 0 ta0 := B0 Ag.no Ag.no Ag.no (Ag.fn e3) Ag.no Ag.no (Ag.fn e6) (Ag.tr (NB Go.Proofs.Tryz.func7 (by kernel_rfl) (by kernel_rfl) small_fn)) (Ag.fn e8) (Ag.fn e9) (Ag.fn e10) (Ag.fn e11) (Ag.fn e12) (Ag.fn e13) (Ag.fn e14) (Ag.fn e15)
noncomputable def ta1:FA := .mk (some x16) (some x17) none (some x19) (some (.prim (AU ""))) (some x21) (some x22) (some x23) (some x24) (some x25) (some x26) (some x27) (some x28) (some x29) (some x30) (some x31)
theorem oa1 {gl:Cq} (hT:HT gl):Cm PP (rhoS gl) B 16 ta1 := B0 (Ag.fn e16) (Ag.fn e17) Ag.no (Ag.fn e19) (Ag.noP _) (Ag.fn e21) (Ag.fn e22) (Ag.fn e23) (Ag.fn e24) (Ag.fn e25) (Ag.fn e26) (Ag.fn e27) (Ag.fn e28) (Ag.fn e29) (Ag.fn e30) (Ag.fn e31)
noncomputable def ta2:FA := .mk (some x32) (some x33) none (some x35) (some x36) (some x37) (some x38) (some (x39.toBr 400)) (some x40) (some x41) (some x42) (some x43) (some x44) (some x45) (some x46) (some x47)
theorem oa2 {gl:Cq} (hT:HT gl):Cm PP (rhoS gl) B 32 ta2 := B0 (Ag.fn e32) (Ag.fn e33) Ag.no (Ag.fn e35) (Ag.fn e36) (Ag.fn e37) (Ag.fn e38) (Ag.brX e39 ⟨_, _, _, rfl⟩) (Ag.fn e40) (Ag.fn e41) (Ag.fn e42) (Ag.fn e43) (Ag.fn e44) (Ag.fn e45) (Ag.fn e46) (Ag.fn e47)
noncomputable def ta3:FA := .mk (some x48) (some x49) (some x50) (some x51) (some x52) (some (.prim (AU ""))) (some x54) (some x55) (some x56) (some x57) (some x58) (some x59) (some x60) (some x61) (some x62) (some x63)
theorem oa3 {gl:Cq} (hT:HT gl):Cm PP (rhoS gl) B 48 ta3 := B0 (Ag.fn e48) (Ag.fn e49) (Ag.fn e50) (Ag.fn e51) (Ag.fn e52) (Ag.noP _) (Ag.fn e54) (Ag.fn e55) (Ag.fn e56) (Ag.fn e57) (Ag.fn e58) (Ag.fn e59) (Ag.fn e60) (Ag.fn e61) (Ag.fn e62) (Ag.fn e63)
noncomputable def ta4:FA := .mk (some x64) (some x65) (some x66) (some x67) (some x68) (some (.prim (AU ""))) (some x70) (some x71) (some (.prim (AU ""))) (some x73) (some x74) (some x75) (some x76) (some (.prim (AU ""))) (some x78) (some x79)
theorem oa4 {gl:Cq} (hT:HT gl):Cm PP (rhoS gl) B 64 ta4 := B0 (Ag.fn e64) (Ag.fn e65) (Ag.fn e66) (Ag.fn e67) (Ag.fn e68) (Ag.noP _) (Ag.fn e70) (Ag.fn e71) (Ag.noP _) (Ag.fn e73) (Ag.fn e74) (Ag.fn e75) (Ag.fn e76) (Ag.noP _) (Ag.fn e78) (Ag.fn e79)
noncomputable def ta5:FA := .mk (some (.prim (AU ""))) (some x81) none none none (some x85) (some x86) (some x87) (some x88) (some x89) (some x90) (some x91) (some x92) (some x93) (some x94) (some x95)
theorem oa5 {gl:Cq} (hT:HT gl):Cm PP (rhoS gl) B 80 ta5 := B0 (Ag.noP _) (Ag.fn e81) Ag.no Ag.no Ag.no (Ag.fn e85) (Ag.fn e86) (Ag.fn e87) (Ag.fn e88) (Ag.fn e89) (Ag.apE (C8.gl e90)) (Ag.fn e91) (Ag.fn e92) (Ag.fn e93) (Ag.fn e94) (Ag.fn e95)
noncomputable def ta6:FA := .mk (some x96) (some x97) (some (.prim KA)) (some x99) (some (x100.toBr 400)) (some x101) (some x102) (some x103) (some (.prim (AU ""))) (some x105) (some x106) (some x107) none (some x109) (some x110) (some x111)
theorem oa6 {gl:Cq} (hT:HT gl):Cm PP (rhoS gl) B 96 ta6 := B0 (Ag.fn e96) (Ag.fn e97) (Ag.pr (OO (g := 169) (by kernel_rfl) bare169)) (Ag.fn e99) (Ag.brX e100 ⟨_, _, _, rfl⟩) (Ag.fn e101) (Ag.fn e102) (Ag.fn e103) (Ag.noP _) (Ag.fn e105) (Ag.fn e106) (Ag.fn e107) Ag.no (Ag.fn e109) (Ag.fn e110) (Ag.fn e111)
noncomputable def ta7:FA := .mk (some x112) (some (.prim (AU ""))) (some x114) (some x115) (some x116) (some x117) (some (.prim (AU ""))) (some x119) (some x120) (some x121) none (some (.prim (AU ""))) (some x124) (some x125) (some x126) (some x127)
theorem oa7 {gl:Cq} (hT:HT gl):Cm PP (rhoS gl) B 112 ta7 := B0 (Ag.fn e112) (Ag.noP _) (Ag.fn e114) (Ag.fn e115) (Ag.fn e116) (Ag.fn e117) (Ag.noP _) (Ag.fn e119) (Ag.fn e120) (Ag.fn e121) Ag.no (Ag.noP _) (Ag.fn e124) (Ag.fn e125) (Ag.fn e126) (Ag.fn e127)
noncomputable def ta8:FA := .mk none none (some x130) none none (some x133) (some x134) none (some x136) none (some x138) none none (some x141) (some (.prim (AU ""))) (some x143)
theorem oa8 {gl:Cq} (hT:HT gl):Cm PP (rhoS gl) B 128 ta8 := B0 Ag.no Ag.no (Ag.fn e130) Ag.no Ag.no (Ag.fn e133) (Ag.fn e134) Ag.no (Ag.fn e136) Ag.no (Ag.fn e138) Ag.no Ag.no (Ag.fn e141) (Ag.noP _) (Ag.fn e143)
noncomputable def ta9:FA := .mk (some x144) (some x145) (some x146) (some (.prim (AU ""))) (some (.prim (AU ""))) (some (.prim (AU ""))) (some (.prim (AU ""))) (some (.prim (AU ""))) (some x152) (some (.prim (AU ""))) (some (.prim (AU ""))) (some x155) (some x156) (some x157) (some x158) (some x159)
theorem oa9 {gl:Cq} (hT:HT gl):Cm PP (rhoS gl) B 144 ta9 := B0 (Ag.fn e144) (Ag.fn e145) (Ag.fn e146) (Ag.noP _) (Ag.noP _) (Ag.noP _) (Ag.noP _) (Ag.noP _) (Ag.fn e152) (Ag.noP _) (Ag.noP _) (Ag.fn e155) (Ag.fn e156) (Ag.fn e157) (Ag.fn e158) (Ag.fn e159)
noncomputable def ta10:FA := .mk (some x160) (some x161) (some x162) (some x163) (some x164) (some x165) (some x166) (some x167) (some x168) none (some x170) (some x171) (some x172) (some x173) (some x174) (some x175)
theorem oa10 {gl:Cq} (hT:HT gl):Cm PP (rhoS gl) B 160 ta10 := B0 (Ag.fn e160) (Ag.fn e161) (Ag.fn e162) (Ag.fn e163) (Ag.fn e164) (Ag.fn e165) (Ag.fn e166) (Ag.fn e167) (Ag.fn e168) Ag.no (Ag.fn e170) (Ag.fn e171) (Ag.fn e172) (Ag.fn e173) (Ag.fn e174) (Ag.fn e175)
noncomputable def ta11:FA := .mk (some (x176.toBr 400)) (some x177) none (some x179) (some x180) (some x181) (some x182) (some x183) (some x184) (some x185) (some x186) (some x187) (some x188) (some x189) (some x190) (some x191)
theorem oa11 {gl:Cq} (hT:HT gl):Cm PP (rhoS gl) B 176 ta11 := B0 (Ag.brX e176 ⟨_, _, _, rfl⟩) (Ag.fn e177) Ag.no (Ag.fn e179) (Ag.fn e180) (Ag.fn e181) (Ag.fn e182) (Ag.fn e183) (Ag.fn e184) (Ag.fn e185) (Ag.fn e186) (Ag.fn e187) (Ag.fn e188) (Ag.fn e189) (Ag.fn e190) (Ag.fn e191)
noncomputable def ta12:FA := .mk (some x192) (some x193) none none (some x196) (some x197) (some x198) (some x199) (some x200) (some x201) (some x202) (some x203) none none none (some (.prim (AU "")))
theorem oa12 {gl:Cq} (hT:HT gl):Cm PP (rhoS gl) B 192 ta12 := B0 (Ag.fn e192) (Ag.fn e193) Ag.no Ag.no (Ag.fn e196) (Ag.fn e197) (Ag.fn e198) (Ag.fn e199) (Ag.fn e200) (Ag.fn e201) (Ag.fn e202) (Ag.fn e203) Ag.no Ag.no Ag.no (Ag.noP _)
noncomputable def ta13:FA := .mk none (some x209) none none none (some x213) (some x214) (some x215) (some x216) none (some x218) (some x219) (some x220) (some x221) (some x222) (some x223)
theorem oa13 {gl:Cq} (hT:HT gl):Cm PP (rhoS gl) B 208 ta13 := B0 Ag.no (Ag.fn e209) Ag.no Ag.no Ag.no (Ag.fn e213) (Ag.fn e214) (Ag.fn e215) (Ag.fn e216) Ag.no (Ag.fn e218) (Ag.fn e219) (Ag.fn e220) (Ag.fn e221) (Ag.fn e222) (Ag.fn e223)
noncomputable def ta14:FA := .mk (some x224) (some x225) (some x226) (some x227) (some x228) (some x229) (some x230) (some x231) (some x232) none none none none none (some x238) (some x239)
theorem oa14 {gl:Cq} (hT:HT gl):Cm PP (rhoS gl) B 224 ta14 := B0 (Ag.fn e224) (Ag.fn e225) (Ag.fn e226) (Ag.fn e227) (Ag.fn e228) (Ag.fn e229) (Ag.fn e230) (Ag.fn e231) (Ag.fn e232) Ag.no Ag.no Ag.no Ag.no Ag.no (Ag.fn e238) (Ag.fn e239)
noncomputable def ta15:FA := .mk (some x240) (some x241) (some x242) (some x243) (some x244) (some x245) (some x246) (some x247) (some x248) (some x249) (some x250) (some x251) (some x252) (some x253) (some x254) (some x255)
theorem oa15 {gl:Cq} (hT:HT gl):Cm PP (rhoS gl) B 240 ta15 := B0 (Ag.fn e240) (Ag.fn e241) (Ag.fn e242) (Ag.fn e243) (Ag.fn e244) (Ag.fn e245) (Ag.fn e246) (Ag.fn e247) (Ag.fn e248) (Ag.fn e249) (Ag.fn e250) (Ag.fn e251) (Ag.fn e252) (Ag.fn e253) (Ag.fn e254) (Ag.apE (C8.gl e255))
noncomputable def ta16:FA := .mk (some x256) (some x257) (some x258) (some x259) (some x260) none none (some x263) (some x264) (some x265) (some x266) (some x267) (some x268) (some (.prim (AU ""))) (some x270) (some x271)
theorem oa16 {gl:Cq} (hT:HT gl):Cm PP (rhoS gl) B 256 ta16 := B0 (Ag.fn e256) (Ag.fn e257) (Ag.fn e258) (Ag.fn e259) (Ag.fn e260) Ag.no Ag.no (Ag.fn e263) (Ag.fn e264) (Ag.fn e265) (Ag.fn e266) (Ag.fn e267) (Ag.fn e268) (Ag.noP _) (Ag.fn e270) (Ag.fn e271)
noncomputable def ta17:FA := .mk (some x272) (some x273) (some x274) (some x275) (some x276) (some x277) (some x278) (some x279) (some x280) (some x281) (some x282) (some x283) (some x284) (some x285) (some x286) (some x287)
theorem oa17 {gl:Cq} (hT:HT gl):Cm PP (rhoS gl) B 272 ta17 := B0 (Ag.fn e272) (Ag.fn e273) (Ag.fn e274) (Ag.fn e275) (Ag.fn e276) (Ag.fn e277) (Ag.fn e278) (Ag.fn e279) (Ag.fn e280) (Ag.fn e281) (Ag.fn e282) (Ag.fn e283) (Ag.fn e284) (Ag.fn e285) (Ag.fn e286) (Ag.fn e287)
noncomputable def ta18:FA := .mk none (some x289) (some x290) (some x291) (some x292) (some x293) (some x294) (some x295) (some x296) (some x297) (some x298) none none none none (some x303)
theorem oa18 {gl:Cq} (hT:HT gl):Cm PP (rhoS gl) B 288 ta18 := B0 Ag.no (Ag.fn e289) (Ag.fn e290) (Ag.fn e291) (Ag.fn e292) (Ag.fn e293) (Ag.fn e294) (Ag.fn e295) (Ag.fn e296) (Ag.fn e297) (Ag.fn e298) Ag.no Ag.no Ag.no Ag.no (Ag.fn e303)
noncomputable def ta19:FA := .mk none none (some x306) (some x307) (some x308) (some x309) (some x310) (some x311) (some x312) (some x313) (some x314) (some x315) (some x316) (some x317) (some x318) (some x319)
theorem oa19 {gl:Cq} (hT:HT gl):Cm PP (rhoS gl) B 304 ta19 := B0 Ag.no Ag.no (Ag.fn e306) (Ag.fn e307) (Ag.fn e308) (Ag.fn e309) (Ag.fn e310) (Ag.fn e311) (Ag.fn e312) (Ag.fn e313) (Ag.fn e314) (Ag.fn e315) (Ag.fn e316) (Ag.fn e317) (Ag.fn e318) (Ag.fn e319)
noncomputable def ta20:FA := .mk (some x320) none (some x322) (some x323) (some x324) (some x325) (some x326) (some x327) (some x328) (some x329) (some x330) (some x331) (some x332) (some x333) (some (.prim (AU ""))) (some (.prim (AU "")))
theorem oa20 {gl:Cq} (hT:HT gl):Cm PP (rhoS gl) B 320 ta20 := B0 (Ag.fn e320) Ag.no (Ag.fn e322) (Ag.fn e323) (Ag.fn e324) (Ag.fn e325) (Ag.fn e326) (Ag.fn e327) (Ag.fn e328) (Ag.fn e329) (Ag.fn e330) (Ag.fn e331) (Ag.fn e332) (Ag.fn e333) (Ag.noP _) (Ag.noP _)
noncomputable def ta21:FA := .mk (some (.prim (AU ""))) (some (.prim (AU ""))) (some (.prim (AU ""))) (some x339) (some (.prim (AU ""))) (some (.prim (AU ""))) (some x342) (some x343) (some (x344.toBr 400)) (some x345) (some x346) (some (.prim (AU ""))) (some (.prim (AU ""))) (some (.prim (AU ""))) (some x350) (some (.prim I9))
theorem oa21 {gl:Cq} (hT:HT gl):Cm PP (rhoS gl) B 336 ta21 := B0 (Ag.noP _) (Ag.noP _) (Ag.noP _) (Ag.fn e339) (Ag.noP _) (Ag.noP _) (Ag.fn e342) (Ag.fn e343) (Ag.brX e344 ⟨_, _, _, rfl⟩) (Ag.fn e345) (Ag.fn e346) (Ag.noP _) (Ag.noP _) (Ag.noP _) (Ag.fn e350) (Ag.pr (@M9 Go.Proofs.Tryz.prog (rhoS gl) B 351 Go.Proofs.Tryz.f351 gl Go.Proofs.Tryz.func351 (by kernel_rfl) (by kernel_rfl) digits351 rfl hT))
noncomputable def ta22:FA := .mk (some x352) (some (.prim (AU ""))) (some (.prim (AU ""))) (some x355) (some x356) (some x357) (some x358) none (some (.prim DV)) (some (.prim (AU ""))) (some x362) (some (x363.toBr 400)) (some x364) (some x365) (some x366) (some x367)
theorem oa22 {gl:Cq} (hT:HT gl):Cm PP (rhoS gl) B 352 ta22 := B0 (Ag.fn e352) (Ag.noP _) (Ag.noP _) (Ag.fn e355) (Ag.fn e356) (Ag.fn e357) (Ag.fn e358) Ag.no (Ag.pr (@ED Go.Proofs.Tryz.prog (rhoS gl) B 360 bare360)) (Ag.noP _) (Ag.fn e362) (Ag.brX e363 ⟨_, _, _, rfl⟩) (Ag.fn e364) (Ag.fn e365) (Ag.fn e366) (Ag.fn e367)
noncomputable def ta23:FA := .mk (some x368) (some x369) (some x370) (some x371) (some x372) (some x373) (some x374) (some x375) (some x376) (some x377) (some x378) (some x379) (some x380) (some (.prim (AU ""))) (some x382) none
theorem oa23 {gl:Cq} (hT:HT gl):Cm PP (rhoS gl) B 368 ta23 := B0 (Ag.fn e368) (Ag.fn e369) (Ag.fn e370) (Ag.fn e371) (Ag.fn e372) (Ag.fn e373) (Ag.fn e374) (Ag.fn e375) (Ag.fn e376) (Ag.fn e377) (Ag.fn e378) (Ag.fn e379) (Ag.fn e380) (Ag.noP _) (Ag.fn e382) Ag.no
noncomputable def ta24:FA := .mk none none none none none none none none none (some x393) (some x394) (some (.prim (AU ""))) (some (.prim (AU ""))) (some (.prim (AU ""))) (some (.prim (AU ""))) (some (.prim (AU "")))
theorem oa24 {gl:Cq} (hT:HT gl):Cm PP (rhoS gl) B 384 ta24 := B0 Ag.no Ag.no Ag.no Ag.no Ag.no Ag.no Ag.no Ag.no Ag.no (Ag.fn e393) (Ag.fn e394) (Ag.noP _) (Ag.noP _) (Ag.noP _) (Ag.noP _) (Ag.noP _)
noncomputable def ta25:FA := .mk (some (.prim (AU ""))) (some (.prim (AU ""))) (some x402) (some x403) (some x404) (some x405) (some (.prim (AU ""))) (some (.prim (AU ""))) (some (.prim (AU ""))) (some (.prim (AU ""))) (some (.prim (AU ""))) (some (.prim (AU ""))) (some (.prim (AU ""))) none none none
theorem oa25 {gl:Cq} (hT:HT gl):Cm PP (rhoS gl) B 400 ta25 := B0 (Ag.noP _) (Ag.noP _) (Ag.fn e402) (Ag.fn e403) (Ag.fn e404) (Ag.fn e405) (Ag.noP _) (Ag.noP _) (Ag.noP _) (Ag.noP _) (Ag.noP _) (Ag.noP _) (Ag.noP _) Ag.no Ag.no Ag.no
noncomputable def ta26:FA := .mk (some x416) (some x417) (some (x418.toBr 400)) (some x419) (some x420) (some x421) (some x422) (some x423) none none none none none (some (.prim (AU ""))) none (some (.prim Dx))
theorem oa26 {gl:Cq} (hT:HT gl):Cm PP (rhoS gl) B 416 ta26 := B0 (Ag.fn e416) (Ag.fn e417) (Ag.brX e418 ⟨_, _, _, rfl⟩) (Ag.fn e419) (Ag.fn e420) (Ag.fn e421) (Ag.fn e422) (Ag.fn e423) Ag.no Ag.no Ag.no Ag.no Ag.no (Ag.noP _) Ag.no (Ag.pr (@Gx Go.Proofs.Tryz.prog (rhoS gl) B 431 bare431))
noncomputable def ta27:FA := .mk (some (.prim (AU ""))) (some (.prim (AU ""))) none none (some x436) (some x437) (some x438) (some x439) (some x440) (some x441) (some x442) (some x443) (some x444) (some x445) (some (.prim (AU ""))) (some x447)
theorem oa27 {gl:Cq} (hT:HT gl):Cm PP (rhoS gl) B 432 ta27 := B0 (Ag.noP _) (Ag.noP _) Ag.no Ag.no (Ag.fn e436) (Ag.fn e437) (Ag.fn e438) (Ag.fn e439) (Ag.fn e440) (Ag.fn e441) (Ag.fn e442) (Ag.fn e443) (Ag.fn e444) (Ag.fn e445) (Ag.noP _) (Ag.fn e447)
noncomputable def ta28:FA := .mk (some x448) none none none none none none none (some x456) none none none none (some x461) (some x462) (some x463)
theorem oa28 {gl:Cq} (hT:HT gl):Cm PP (rhoS gl) B 448 ta28 := B0 (Ag.fn e448) Ag.no Ag.no Ag.no Ag.no Ag.no Ag.no Ag.no (Ag.fn e456) Ag.no Ag.no Ag.no Ag.no (Ag.fn e461) (Ag.fn e462) (Ag.fn e463)
noncomputable def ta29:FA := .mk (some x464) (some x465) (some x466) none none none (some x470) (some x471) (some (.prim (AU ""))) (some x473) (some x474) (some x475) (some x476) none none (some x479)
theorem oa29 {gl:Cq} (hT:HT gl):Cm PP (rhoS gl) B 464 ta29 := B0 (Ag.fn e464) (Ag.fn e465) (Ag.fn e466) Ag.no Ag.no Ag.no (Ag.fn e470) (Ag.fn e471) (Ag.noP _) (Ag.apE (C8.gl e473)) (Ag.fn e474) (Ag.fn e475) (Ag.fn e476) Ag.no Ag.no (Ag.fn e479)
noncomputable def ta30:FA := .mk (some x480) none (some x482) (some x483) (some x484) (some x485) (some x486) (some x487) none none (some x490) (some (.prim (AU ""))) (some (.prim (AU ""))) (some (.prim (AU ""))) (some (.prim (AU ""))) (some (.prim (AU "")))
theorem oa30 {gl:Cq} (hT:HT gl):Cm PP (rhoS gl) B 480 ta30 := B0 (Ag.fn e480) Ag.no (Ag.apE (C8.gl e482)) (Ag.fn e483) (Ag.fn e484) (Ag.fn e485) (Ag.fn e486) (Ag.fn e487) Ag.no Ag.no (Ag.fn e490) (Ag.noP _) (Ag.noP _) (Ag.noP _) (Ag.noP _) (Ag.noP _)
noncomputable def ta31:FA := .mk (some x496) (some (.prim (AU ""))) (some (.prim (AU ""))) (some x499) (some x500) (some x501) (some (.prim (AU ""))) (some (.prim (AU ""))) (some (.prim (AU ""))) (some (.prim (AU ""))) (some (.prim (AU ""))) (some (.prim (AU ""))) (some (.prim (AU ""))) (some x509) (some x510) none
theorem oa31 {gl:Cq} (hT:HT gl):Cm PP (rhoS gl) B 496 ta31 := B0 (Ag.fn e496) (Ag.noP _) (Ag.noP _) (Ag.fn e499) (Ag.fn e500) (Ag.fn e501) (Ag.noP _) (Ag.noP _) (Ag.noP _) (Ag.noP _) (Ag.noP _) (Ag.noP _) (Ag.noP _) (Ag.fn e509) (Ag.fn e510) Ag.no
noncomputable def tb0:FB := .mk ta0 ta1 ta2 ta3 ta4 ta5 ta6 ta7 ta8 ta9 ta10 ta11 ta12 ta13 ta14 ta15
theorem ob0 {gl:Cq} (hT:HT gl):L1 PP (rhoS gl) B 0 tb0 := Nt (oa0 hT) (oa1 hT) (oa2 hT) (oa3 hT) (oa4 hT) (oa5 hT) (oa6 hT) (oa7 hT) (oa8 hT) (oa9 hT) (oa10 hT) (oa11 hT) (oa12 hT) (oa13 hT) (oa14 hT) (oa15 hT)
noncomputable def tb1:FB := .mk ta16 ta17 ta18 ta19 ta20 ta21 ta22 ta23 ta24 ta25 ta26 ta27 ta28 ta29 ta30 ta31
theorem ob1 {gl:Cq} (hT:HT gl):L1 PP (rhoS gl) B 256 tb1 := Nt (oa16 hT) (oa17 hT) (oa18 hT) (oa19 hT) (oa20 hT) (oa21 hT) (oa22 hT) (oa23 hT) (oa24 hT) (oa25 hT) (oa26 hT) (oa27 hT) (oa28 hT) (oa29 hT) (oa30 hT) (oa31 hT)
noncomputable def tab:FC := .mk tb0 tb1 H3 H3 H3 H3 H3 H3 H3 H3 H3 H3 H3 H3 H3 H3
theorem tab_ok {gl:Cq} (hT:HT gl) (B:Nat):Hi Go.Proofs.Tryz.prog (rhoS gl) B tab := .mkG (Si (ob0 hT) (ob1 hT) BO BO BO BO BO BO BO BO BO BO BO BO BO) (F3 ⟨x90, by kernel_rfl, C8.gl e90⟩ (F3 ⟨x255, by kernel_rfl, C8.gl e255⟩ (F3 ⟨x473, by kernel_rfl, C8.gl e473⟩ (F3 ⟨x482, by kernel_rfl, C8.gl e482⟩ TB))))
end Z
end Go.Ev.YtijkeeoabcoidaaGreatDoor
