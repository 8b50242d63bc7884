/- The table of the functions. -/
import Derived.Test.YtnacbbemgocmcaaGreatDoorF0
import Derived.Test.YtnacbbemgocmcaaGreatDoorF1
import Derived.Test.YtnacbbemgocmcaaGreatDoorF2
import Derived.Test.YtnacbbemgocmcaaGreatDoorF3
import Derived.Test.YtnacbbemgocmcaaGreatDoorF4
import Derived.Test.YtnacbbemgocmcaaGreatDoorF5
import Derived.Test.YtnacbbemgocmcaaGreatDoorF6
import Derived.Test.YtnacbbemgocmcaaGreatDoorEv4
import Derived.KernelRfl
namespace Go.Ev.YtnacbbemgocmcaaGreatDoor
open Go Go.Ev
set_option linter.unusedVariables false
set_option maxRecDepth 100000

theorem bare290 : Bare Go.Proofs.Tryz.prog 290 Extern.MapsClone.clone := ⟨Go.Proofs.Tryz.f290, Go.Proofs.Tryz.func290, by kernel_rfl, by kernel_rfl, by kernel_rfl, by kernel_rfl⟩
theorem bare461 : Bare Go.Proofs.Tryz.prog 461 Extern.BytealgIndexByte.indexByte := ⟨Go.Proofs.Tryz.f461, Go.Proofs.Tryz.func461, by kernel_rfl, by kernel_rfl, by kernel_rfl, by kernel_rfl⟩
theorem bare492 : Bare Go.Proofs.Tryz.prog 492 Extern.BytealgCount.count := ⟨Go.Proofs.Tryz.f492, Go.Proofs.Tryz.func492, by kernel_rfl, by kernel_rfl, by kernel_rfl, by kernel_rfl⟩
def nren : Shelf.Ren := { f := fun x => match x with | 129 => 259 | 284 => 286 | 317 => 356 | 318 => 357 | _ => 0, t := fun x => match x with | 0 => 0 | 3 => 3 | 4 => 4 | 5 => 5 | 9 => 9 | 46 => 297 | 53 => 146 | 212 => 470 | _ => 0, g := fun _ => 0 }
theorem nlay : Go.Proofs.LaysM.n284 Go.Proofs.Tryz.prog nren where
  mixed := by kernel_rfl
  f129 := Go.Proofs.Tryz.func259.trans (by kernel_rfl)
  f284 := Go.Proofs.Tryz.func286.trans (by kernel_rfl)
  f317 := Go.Proofs.Tryz.func356.trans (by kernel_rfl)
  f318 := Go.Proofs.Tryz.func357.trans (by kernel_rfl)
  t0 := Go.Proofs.Tryz.underlying0
  a0 := Go.Proofs.Tryz.isAgg0
  z0 := Go.Proofs.Tryz.sizeOf0
  v0 := Go.Proofs.Tryz.zeroValue0
  i0 := by kernel_rfl
  t3 := Go.Proofs.Tryz.underlying3
  a3 := Go.Proofs.Tryz.isAgg3
  z3 := Go.Proofs.Tryz.sizeOf3
  v3 := Go.Proofs.Tryz.zeroValue3
  i3 := by kernel_rfl
  t4 := Go.Proofs.Tryz.underlying4
  a4 := Go.Proofs.Tryz.isAgg4
  z4 := Go.Proofs.Tryz.sizeOf4
  v4 := Go.Proofs.Tryz.zeroValue4
  i4 := by kernel_rfl
  t5 := Go.Proofs.Tryz.underlying5
  a5 := Go.Proofs.Tryz.isAgg5
  z5 := Go.Proofs.Tryz.sizeOf5
  v5 := Go.Proofs.Tryz.zeroValue5
  i5 := by kernel_rfl
  t9 := Go.Proofs.Tryz.underlying9
  a9 := Go.Proofs.Tryz.isAgg9
  z9 := Go.Proofs.Tryz.sizeOf9
  v9 := Go.Proofs.Tryz.zeroValue9
  i9 := by kernel_rfl
  t46 := Go.Proofs.Tryz.underlying297
  a46 := Go.Proofs.Tryz.isAgg297
  z46 := Go.Proofs.Tryz.sizeOf297
  v46 := Go.Proofs.Tryz.zeroValue297
  i46 := by kernel_rfl
  t53 := Go.Proofs.Tryz.underlying146
  a53 := Go.Proofs.Tryz.isAgg146
  z53 := Go.Proofs.Tryz.sizeOf146
  v53 := Go.Proofs.Tryz.zeroValue146
  i53 := by kernel_rfl
  t212 := Go.Proofs.Tryz.underlying470
  a212 := Go.Proofs.Tryz.isAgg470
  z212 := Go.Proofs.Tryz.sizeOf470
  v212 := Go.Proofs.Tryz.zeroValue470
  i212 := by kernel_rfl
  g17 := by kernel_rfl
  m17 := by kernel_rfl
theorem digits286 : DigitsFn Go.Proofs.Tryz.prog 286 := fun u h1 h2 w ht => Go.Proofs.Any.internal_strconv_numDigits nlay u h1 h2 w ht
noncomputable abbrev rhoS (gl : GlF) : Env := envGl Go.Proofs.Tryz.prog [166, 268, 389, 470] gl
theorem oneS {gl : GlF} : OneSym (rhoS gl) := oneGl
abbrev HT (gl : GlF) : Prop := TabG PP gl "internal/strconv.uint64pow10" .u64 Lib.pow10Tab
variable {B : Nat}
namespace Z
noncomputable def ta0 : FA := .mk none none none (some x3) none (some x5) (some x6) (some x7) (some x8) (some x9) (some x10) (some x11) (some x12) (some x13) (some x14) none
theorem oa0 {gl : GlF} (hT : HT gl) : OKA PP (rhoS gl) B 0 ta0 := okA_mk OKO.no OKO.no OKO.no (OKO.fn e3) OKO.no (OKO.fn e5) (OKO.fn e6) (OKO.fn e7) (OKO.fn e8) (OKO.fn e9) (OKO.fn e10) (OKO.fn e11) (OKO.fn e12) (OKO.fn e13) (OKO.fn e14) OKO.no
noncomputable def ta1 : FA := .mk none none none none none (some x21) none none none none (some x26) (some x27) (some x28) (some x29) (some x30) (some x31)
theorem oa1 {gl : GlF} (hT : HT gl) : OKA PP (rhoS gl) B 16 ta1 := okA_mk OKO.no OKO.no OKO.no OKO.no OKO.no (OKO.fn e21) OKO.no OKO.no OKO.no OKO.no (OKO.fn e26) (OKO.fn e27) (OKO.fn e28) (OKO.fn e29) (OKO.fn e30) (OKO.fn e31)
noncomputable def ta2 : FA := .mk (some x32) (some x33) (some x34) (some x35) (some x36) (some x37) (some x38) (some (.prim (noFn "function 39"))) (some x40) (some x41) (some x42) (some x43) (some x44) (some x45) (some x46) (some x47)
theorem oa2 {gl : GlF} (hT : HT gl) : OKA PP (rhoS gl) B 32 ta2 := okA_mk (OKO.fn e32) (OKO.fn e33) (OKO.fn e34) (OKO.fn e35) (OKO.fn e36) (OKO.fn e37) (OKO.fn e38) (OKO.noP _) (OKO.fn e40) (OKO.fn e41) (OKO.fn e42) (OKO.fn e43) (OKO.fn e44) (OKO.fn e45) (OKO.fn e46) (OKO.fn e47)
noncomputable def ta3 : FA := .mk (some x48) (some (x49.toBr 400)) (some x50) none none none none none none none none none none (some x61) none (some x63)
theorem oa3 {gl : GlF} (hT : HT gl) : OKA PP (rhoS gl) B 48 ta3 := okA_mk (OKO.fn e48) (OKO.brX e49 ⟨_, _, _, rfl⟩) (OKO.fn e50) OKO.no OKO.no OKO.no OKO.no OKO.no OKO.no OKO.no OKO.no OKO.no OKO.no (OKO.fn e61) OKO.no (OKO.fn e63)
noncomputable def ta4 : FA := .mk (some x64) (some x65) (some x66) (some x67) (some x68) (some (.prim (noFn "function 69"))) (some x70) (some x71) (some x72) (some x73) (some x74) (some x75) (some x76) (some x77) (some x78) (some x79)
theorem oa4 {gl : GlF} (hT : HT gl) : OKA PP (rhoS gl) B 64 ta4 := okA_mk (OKO.fn e64) (OKO.fn e65) (OKO.fn e66) (OKO.fn e67) (OKO.fn e68) (OKO.noP _) (OKO.fn e70) (OKO.fn e71) (OKO.fn e72) (OKO.fn e73) (OKO.fn e74) (OKO.fn e75) (OKO.fn e76) (OKO.fn e77) (OKO.fn e78) (OKO.fn e79)
noncomputable def ta5 : FA := .mk (some x80) (some x81) (some x82) (some x83) (some x84) (some x85) (some x86) (some x87) (some x88) (some x89) (some x90) (some x91) (some x92) (some x93) (some x94) (some x95)
theorem oa5 {gl : GlF} (hT : HT gl) : OKA PP (rhoS gl) B 80 ta5 := okA_mk (OKO.fn e80) (OKO.fn e81) (OKO.fn e82) (OKO.fn e83) (OKO.fn e84) (OKO.fn e85) (OKO.fn e86) (OKO.fn e87) (OKO.fn e88) (OKO.fn e89) (OKO.fn e90) (OKO.fn e91) (OKO.fn e92) (OKO.fn e93) (OKO.fn e94) (OKO.fn e95)
noncomputable def ta6 : FA := .mk (some x96) none none none (some (x100.toBr 400)) (some x101) (some x102) (some (.prim (noFn "function 103"))) (some (.prim (noFn "function 104"))) (some x105) (some x106) (some x107) none none none (some x111)
theorem oa6 {gl : GlF} (hT : HT gl) : OKA PP (rhoS gl) B 96 ta6 := okA_mk (OKO.fn e96) OKO.no OKO.no OKO.no (OKO.brX e100 ⟨_, _, _, rfl⟩) (OKO.fn e101) (OKO.fn e102) (OKO.noP _) (OKO.noP _) (OKO.fn e105) (OKO.fn e106) (OKO.fn e107) OKO.no OKO.no OKO.no (OKO.fn e111)
noncomputable def ta7 : FA := .mk none (some (x113.toBr 400)) none none none none none (some x119) (some x120) (some x121) (some x122) (some x123) (some (.prim (noFn "function 124"))) (some x125) (some x126) (some x127)
theorem oa7 {gl : GlF} (hT : HT gl) : OKA PP (rhoS gl) B 112 ta7 := okA_mk OKO.no (OKO.brX e113 ⟨_, _, _, rfl⟩) OKO.no OKO.no OKO.no OKO.no OKO.no (OKO.fn e119) (OKO.fn e120) (OKO.fn e121) (OKO.fn e122) (OKO.fn e123) (OKO.noP _) (OKO.fn e125) (OKO.fn e126) (OKO.fn e127)
noncomputable def ta8 : FA := .mk (some x128) (some x129) (some (.prim (noFn "function 130"))) (some x131) (some x132) (some (.prim (noFn "function 133"))) (some x134) (some x135) (some x136) (some x137) (some x138) (some x139) (some x140) (some (.prim (noFn "function 141"))) (some x142) (some x143)
theorem oa8 {gl : GlF} (hT : HT gl) : OKA PP (rhoS gl) B 128 ta8 := okA_mk (OKO.fn e128) (OKO.fn e129) (OKO.noP _) (OKO.fn e131) (OKO.fn e132) (OKO.noP _) (OKO.fn e134) (OKO.fn e135) (OKO.fn e136) (OKO.fn e137) (OKO.fn e138) (OKO.fn e139) (OKO.fn e140) (OKO.noP _) (OKO.fn e142) (OKO.fn e143)
noncomputable def ta9 : FA := .mk (some x144) (some x145) (some x146) (some x147) (some x148) (some x149) (some x150) (some x151) (some x152) (some x153) (some x154) (some x155) (some x156) (some x157) (some x158) (some x159)
theorem oa9 {gl : GlF} (hT : HT gl) : OKA PP (rhoS gl) B 144 ta9 := okA_mk (OKO.fn e144) (OKO.fn e145) (OKO.fn e146) (OKO.fn e147) (OKO.fn e148) (OKO.fn e149) (OKO.fn e150) (OKO.fn e151) (OKO.fn e152) (OKO.fn e153) (OKO.fn e154) (OKO.fn e155) (OKO.fn e156) (OKO.fn e157) (OKO.fn e158) (OKO.fn e159)
noncomputable def ta10 : FA := .mk (some x160) (some x161) (some x162) (some x163) (some x164) (some (.prim (noFn "function 165"))) (some x166) (some x167) (some x168) none none none none none (some x174) (some x175)
theorem oa10 {gl : GlF} (hT : HT gl) : OKA PP (rhoS gl) B 160 ta10 := okA_mk (OKO.fn e160) (OKO.fn e161) (OKO.fn e162) (OKO.fn e163) (OKO.fn e164) (OKO.noP _) (OKO.apE (ApEnt.gl e166)) (OKO.fn e167) (OKO.fn e168) OKO.no OKO.no OKO.no OKO.no OKO.no (OKO.fn e174) (OKO.fn e175)
noncomputable def ta11 : FA := .mk (some x176) (some x177) (some x178) (some (.prim (noFn "function 179"))) (some x180) none none (some x183) (some x184) (some x185) (some x186) (some x187) (some x188) (some x189) (some x190) (some x191)
theorem oa11 {gl : GlF} (hT : HT gl) : OKA PP (rhoS gl) B 176 ta11 := okA_mk (OKO.fn e176) (OKO.fn e177) (OKO.fn e178) (OKO.noP _) (OKO.fn e180) OKO.no OKO.no (OKO.fn e183) (OKO.fn e184) (OKO.fn e185) (OKO.fn e186) (OKO.fn e187) (OKO.fn e188) (OKO.fn e189) (OKO.fn e190) (OKO.fn e191)
noncomputable def ta12 : FA := .mk none (some x193) (some x194) (some x195) (some x196) none none (some x199) (some x200) (some x201) (some x202) (some x203) (some x204) (some (.prim pClone)) (some x206) (some x207)
theorem oa12 {gl : GlF} (hT : HT gl) : OKA PP (rhoS gl) B 192 ta12 := okA_mk OKO.no (OKO.fn e193) (OKO.fn e194) (OKO.fn e195) (OKO.fn e196) OKO.no OKO.no (OKO.fn e199) (OKO.fn e200) (OKO.fn e201) (OKO.fn e202) (OKO.fn e203) (OKO.fn e204) (OKO.pr (clone_ok (g := 290) (by kernel_rfl) bare290)) (OKO.fn e206) (OKO.fn e207)
noncomputable def ta13 : FA := .mk (some x208) (some x209) (some x210) (some x211) (some x212) (some x213) none (some x215) (some x216) none (some x218) (some x219) none (some (x221.toBr 400)) (some x222) (some x223)
theorem oa13 {gl : GlF} (hT : HT gl) : OKA PP (rhoS gl) B 208 ta13 := okA_mk (OKO.fn e208) (OKO.fn e209) (OKO.fn e210) (OKO.fn e211) (OKO.fn e212) (OKO.fn e213) OKO.no (OKO.fn e215) (OKO.fn e216) OKO.no (OKO.fn e218) (OKO.fn e219) OKO.no (OKO.brX e221 ⟨_, _, _, rfl⟩) (OKO.fn e222) (OKO.fn e223)
noncomputable def ta14 : FA := .mk (some x224) (some x225) (some (.prim (noFn "function 226"))) (some x227) (some x228) (some x229) (some x230) (some x231) (some x232) (some x233) (some x234) (some x235) (some x236) (some x237) (some x238) (some x239)
theorem oa14 {gl : GlF} (hT : HT gl) : OKA PP (rhoS gl) B 224 ta14 := okA_mk (OKO.fn e224) (OKO.fn e225) (OKO.noP _) (OKO.fn e227) (OKO.fn e228) (OKO.fn e229) (OKO.fn e230) (OKO.fn e231) (OKO.fn e232) (OKO.fn e233) (OKO.fn e234) (OKO.fn e235) (OKO.fn e236) (OKO.fn e237) (OKO.fn e238) (OKO.fn e239)
noncomputable def ta15 : FA := .mk (some x240) (some x241) (some x242) (some x243) (some x244) (some x245) (some x246) (some (.prim (noFn "function 247"))) (some x248) (some x249) (some (.prim (noFn "function 250"))) (some (.prim (noFn "function 251"))) (some (.prim (noFn "function 252"))) (some (.prim (noFn "function 253"))) (some (.prim (noFn "function 254"))) (some x255)
theorem oa15 {gl : GlF} (hT : HT gl) : OKA PP (rhoS gl) B 240 ta15 := okA_mk (OKO.fn e240) (OKO.fn e241) (OKO.fn e242) (OKO.fn e243) (OKO.fn e244) (OKO.fn e245) (OKO.fn e246) (OKO.noP _) (OKO.fn e248) (OKO.fn e249) (OKO.noP _) (OKO.noP _) (OKO.noP _) (OKO.noP _) (OKO.noP _) (OKO.fn e255)
noncomputable def ta16 : FA := .mk (some (.prim (noFn "function 256"))) (some (.prim (noFn "function 257"))) (some x258) (some x259) none none none none none none none none (some x268) (some x269) (some x270) (some x271)
theorem oa16 {gl : GlF} (hT : HT gl) : OKA PP (rhoS gl) B 256 ta16 := okA_mk (OKO.noP _) (OKO.noP _) (OKO.fn e258) (OKO.fn e259) OKO.no OKO.no OKO.no OKO.no OKO.no OKO.no OKO.no OKO.no (OKO.apE (ApEnt.gl e268)) (OKO.fn e269) (OKO.fn e270) (OKO.fn e271)
noncomputable def ta17 : FA := .mk (some x272) (some x273) (some x274) none (some x276) none none none none none none none none (some x285) (some (.prim pDigits)) (some x287)
theorem oa17 {gl : GlF} (hT : HT gl) : OKA PP (rhoS gl) B 272 ta17 := okA_mk (OKO.fn e272) (OKO.fn e273) (OKO.fn e274) OKO.no (OKO.fn e276) OKO.no OKO.no OKO.no OKO.no OKO.no OKO.no OKO.no OKO.no (OKO.fn e285) (OKO.pr (@digits_ok Go.Proofs.Tryz.prog (rhoS gl) B 286 Go.Proofs.Tryz.f286 gl Go.Proofs.Tryz.func286 (by kernel_rfl) (by kernel_rfl) digits286 rfl hT)) (OKO.fn e287)
noncomputable def ta18 : FA := .mk (some (.prim (noFn "function 288"))) (some x289) none (some x291) (some x292) (some x293) (some x294) (some x295) (some x296) (some (x297.toBr 400)) (some (.prim (noFn "function 298"))) (some x299) (some x300) (some x301) (some (.prim (noFn "function 302"))) (some x303)
theorem oa18 {gl : GlF} (hT : HT gl) : OKA PP (rhoS gl) B 288 ta18 := okA_mk (OKO.noP _) (OKO.fn e289) OKO.no (OKO.fn e291) (OKO.fn e292) (OKO.fn e293) (OKO.fn e294) (OKO.fn e295) (OKO.fn e296) (OKO.brX e297 ⟨_, _, _, rfl⟩) (OKO.noP _) (OKO.fn e299) (OKO.fn e300) (OKO.fn e301) (OKO.noP _) (OKO.fn e303)
noncomputable def ta19 : FA := .mk (some x304) (some x305) (some x306) (some x307) (some x308) (some x309) (some x310) (some x311) (some x312) (some x313) (some x314) (some x315) (some x316) (some x317) (some x318) (some x319)
theorem oa19 {gl : GlF} (hT : HT gl) : OKA PP (rhoS gl) B 304 ta19 := okA_mk (OKO.fn e304) (OKO.fn e305) (OKO.fn e306) (OKO.fn e307) (OKO.fn e308) (OKO.fn e309) (OKO.fn e310) (OKO.fn e311) (OKO.fn e312) (OKO.fn e313) (OKO.fn e314) (OKO.fn e315) (OKO.fn e316) (OKO.fn e317) (OKO.fn e318) (OKO.fn e319)
noncomputable def ta20 : FA := .mk (some x320) (some x321) (some x322) (some x323) (some x324) (some x325) (some (.prim (noFn "function 326"))) (some x327) (some x328) none none none none none (some x334) none
theorem oa20 {gl : GlF} (hT : HT gl) : OKA PP (rhoS gl) B 320 ta20 := okA_mk (OKO.fn e320) (OKO.fn e321) (OKO.fn e322) (OKO.fn e323) (OKO.fn e324) (OKO.fn e325) (OKO.noP _) (OKO.fn e327) (OKO.fn e328) OKO.no OKO.no OKO.no OKO.no OKO.no (OKO.fn e334) OKO.no
noncomputable def ta21 : FA := .mk none none none none none none (some x342) (some (.prim (noFn "function 343"))) (some (.prim (noFn "function 344"))) (some (.prim (noFn "function 345"))) (some (.prim (noFn "function 346"))) (some (.prim (noFn "function 347"))) (some x348) (some (.prim (noFn "function 349"))) (some (.prim (noFn "function 350"))) (some x351)
theorem oa21 {gl : GlF} (hT : HT gl) : OKA PP (rhoS gl) B 336 ta21 := okA_mk OKO.no OKO.no OKO.no OKO.no OKO.no OKO.no (OKO.fn e342) (OKO.noP _) (OKO.noP _) (OKO.noP _) (OKO.noP _) (OKO.noP _) (OKO.fn e348) (OKO.noP _) (OKO.noP _) (OKO.fn e351)
noncomputable def ta22 : FA := .mk (some x352) none none none none none none none (some x360) (some (.prim (noFn "function 361"))) (some (.prim (noFn "function 362"))) (some (.prim (noFn "function 363"))) (some (.prim (noFn "function 364"))) (some (.prim (noFn "function 365"))) (some (.prim (noFn "function 366"))) (some (.prim (noFn "function 367")))
theorem oa22 {gl : GlF} (hT : HT gl) : OKA PP (rhoS gl) B 352 ta22 := okA_mk (OKO.fn e352) OKO.no OKO.no OKO.no OKO.no OKO.no OKO.no OKO.no (OKO.fn e360) (OKO.noP _) (OKO.noP _) (OKO.noP _) (OKO.noP _) (OKO.noP _) (OKO.noP _) (OKO.noP _)
noncomputable def ta23 : FA := .mk (some x368) (some (x369.toBr 400)) (some x370) (some x371) (some x372) none none none (some (.prim (noFn "function 376"))) (some x377) (some x378) none (some x380) (some x381) (some x382) (some x383)
theorem oa23 {gl : GlF} (hT : HT gl) : OKA PP (rhoS gl) B 368 ta23 := okA_mk (OKO.fn e368) (OKO.brX e369 ⟨_, _, _, rfl⟩) (OKO.fn e370) (OKO.fn e371) (OKO.fn e372) OKO.no OKO.no OKO.no (OKO.noP _) (OKO.fn e377) (OKO.fn e378) OKO.no (OKO.fn e380) (OKO.fn e381) (OKO.fn e382) (OKO.fn e383)
noncomputable def ta24 : FA := .mk (some x384) (some x385) (some (.prim (noFn "function 386"))) (some x387) (some (.prim (noFn "function 388"))) (some x389) (some x390) (some x391) (some x392) (some x393) (some x394) (some x395) (some (.prim (noFn "function 396"))) (some x397) (some x398) (some x399)
theorem oa24 {gl : GlF} (hT : HT gl) : OKA PP (rhoS gl) B 384 ta24 := okA_mk (OKO.fn e384) (OKO.fn e385) (OKO.noP _) (OKO.fn e387) (OKO.noP _) (OKO.apE (ApEnt.gl e389)) (OKO.fn e390) (OKO.fn e391) (OKO.fn e392) (OKO.fn e393) (OKO.fn e394) (OKO.fn e395) (OKO.noP _) (OKO.fn e397) (OKO.fn e398) (OKO.fn e399)
noncomputable def ta25 : FA := .mk (some x400) none none none none none none none none (some x409) (some x410) (some x411) (some x412) (some x413) none none
theorem oa25 {gl : GlF} (hT : HT gl) : OKA PP (rhoS gl) B 400 ta25 := okA_mk (OKO.fn e400) OKO.no OKO.no OKO.no OKO.no OKO.no OKO.no OKO.no OKO.no (OKO.fn e409) (OKO.fn e410) (OKO.fn e411) (OKO.fn e412) (OKO.fn e413) OKO.no OKO.no
noncomputable def ta26 : FA := .mk none none none none (some x420) (some x421) (some x422) none (some x424) none none none none none none none
theorem oa26 {gl : GlF} (hT : HT gl) : OKA PP (rhoS gl) B 416 ta26 := okA_mk OKO.no OKO.no OKO.no OKO.no (OKO.fn e420) (OKO.fn e421) (OKO.fn e422) OKO.no (OKO.fn e424) OKO.no OKO.no OKO.no OKO.no OKO.no OKO.no OKO.no
noncomputable def ta27 : FA := .mk none (some x433) (some x434) (some x435) (some x436) (some x437) (some x438) (some x439) (some x440) none none (some x443) (some (.prim (noFn "function 444"))) (some (.prim (noFn "function 445"))) (some (.prim (noFn "function 446"))) (some (.prim (noFn "function 447")))
theorem oa27 {gl : GlF} (hT : HT gl) : OKA PP (rhoS gl) B 432 ta27 := okA_mk OKO.no (OKO.fn e433) (OKO.fn e434) (OKO.fn e435) (OKO.fn e436) (OKO.fn e437) (OKO.fn e438) (OKO.fn e439) (OKO.fn e440) OKO.no OKO.no (OKO.fn e443) (OKO.noP _) (OKO.noP _) (OKO.noP _) (OKO.noP _)
noncomputable def ta28 : FA := .mk (some (.prim (noFn "function 448"))) (some x449) (some (.prim (noFn "function 450"))) (some (.prim (noFn "function 451"))) (some (.prim (noFn "function 452"))) (some (.prim (noFn "function 453"))) (some (.prim (noFn "function 454"))) (some (.prim (noFn "function 455"))) (some x456) (some x457) (some x458) (some x459) none (some (.prim pIndexByteString)) (some x462) (some x463)
theorem oa28 {gl : GlF} (hT : HT gl) : OKA PP (rhoS gl) B 448 ta28 := okA_mk (OKO.noP _) (OKO.fn e449) (OKO.noP _) (OKO.noP _) (OKO.noP _) (OKO.noP _) (OKO.noP _) (OKO.noP _) (OKO.fn e456) (OKO.fn e457) (OKO.fn e458) (OKO.fn e459) OKO.no (OKO.pr (@indexByteString_ok Go.Proofs.Tryz.prog (rhoS gl) B 461 bare461)) (OKO.fn e462) (OKO.fn e463)
noncomputable def ta29 : FA := .mk none none none none (some x468) none (some x470) (some x471) (some x472) none none none none none none none
theorem oa29 {gl : GlF} (hT : HT gl) : OKA PP (rhoS gl) B 464 ta29 := okA_mk OKO.no OKO.no OKO.no OKO.no (OKO.fn e468) OKO.no (OKO.apE (ApEnt.gl e470)) (OKO.fn e471) (OKO.fn e472) OKO.no OKO.no OKO.no OKO.no OKO.no OKO.no OKO.no
noncomputable def ta30 : FA := .mk none (some x481) (some x482) (some x483) (some x484) (some x485) none none none none (some (.prim (noFn "function 490"))) none (some (.prim pCountString)) (some (.prim (noFn "function 493"))) (some (.prim (noFn "function 494"))) (some x495)
theorem oa30 {gl : GlF} (hT : HT gl) : OKA PP (rhoS gl) B 480 ta30 := okA_mk OKO.no (OKO.fn e481) (OKO.fn e482) (OKO.fn e483) (OKO.fn e484) (OKO.fn e485) OKO.no OKO.no OKO.no OKO.no (OKO.noP _) OKO.no (OKO.pr (@countString_ok Go.Proofs.Tryz.prog (rhoS gl) B 492 bare492)) (OKO.noP _) (OKO.noP _) (OKO.fn e495)
noncomputable def ta31 : FA := .mk (some (.prim (noFn "function 496"))) (some (.prim (noFn "function 497"))) (some (.prim (noFn "function 498"))) (some (.prim (noFn "function 499"))) (some (.prim (noFn "function 500"))) (some (.prim (noFn "function 501"))) (some (.prim (noFn "function 502"))) none none none none none none (some x509) none none
theorem oa31 {gl : GlF} (hT : HT gl) : OKA PP (rhoS gl) B 496 ta31 := okA_mk (OKO.noP _) (OKO.noP _) (OKO.noP _) (OKO.noP _) (OKO.noP _) (OKO.noP _) (OKO.noP _) OKO.no OKO.no OKO.no OKO.no OKO.no OKO.no (OKO.fn e509) OKO.no OKO.no
noncomputable def tb0 : FB := .mk ta0 ta1 ta2 ta3 ta4 ta5 ta6 ta7 ta8 ta9 ta10 ta11 ta12 ta13 ta14 ta15
theorem ob0 {gl : GlF} (hT : HT gl) : OKB PP (rhoS gl) B 0 tb0 := okB_mk (oa0 hT) (oa1 hT) (oa2 hT) (oa3 hT) (oa4 hT) (oa5 hT) (oa6 hT) (oa7 hT) (oa8 hT) (oa9 hT) (oa10 hT) (oa11 hT) (oa12 hT) (oa13 hT) (oa14 hT) (oa15 hT)
noncomputable def tb1 : FB := .mk ta16 ta17 ta18 ta19 ta20 ta21 ta22 ta23 ta24 ta25 ta26 ta27 ta28 ta29 ta30 ta31
theorem ob1 {gl : GlF} (hT : HT gl) : OKB PP (rhoS gl) B 256 tb1 := okB_mk (oa16 hT) (oa17 hT) (oa18 hT) (oa19 hT) (oa20 hT) (oa21 hT) (oa22 hT) (oa23 hT) (oa24 hT) (oa25 hT) (oa26 hT) (oa27 hT) (oa28 hT) (oa29 hT) (oa30 hT) (oa31 hT)
noncomputable def tab : FC := .mk tb0 tb1 noB noB noB noB noB noB noB noB noB noB noB noB noB noB
theorem tab_ok {gl : GlF} (hT : HT gl) (B : Nat) : TabOK Go.Proofs.Tryz.prog (rhoS gl) B tab := .mkG (okC_mk (ob0 hT) (ob1 hT) okB_no okB_no okB_no okB_no okB_no okB_no okB_no okB_no okB_no okB_no okB_no okB_no okB_no) (ha_cons ⟨x166, by kernel_rfl, ApEnt.gl e166⟩ (ha_cons ⟨x268, by kernel_rfl, ApEnt.gl e268⟩ (ha_cons ⟨x389, by kernel_rfl, ApEnt.gl e389⟩ (ha_cons ⟨x470, by kernel_rfl, ApEnt.gl e470⟩ ha_nil))))
end Z
end Go.Ev.YtnacbbemgocmcaaGreatDoor
