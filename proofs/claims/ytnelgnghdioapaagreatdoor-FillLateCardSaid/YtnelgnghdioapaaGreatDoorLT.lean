/- The table of the functions. -/
import Derived.Test.YtnelgnghdioapaaGreatDoorLF0
import Derived.Test.YtnelgnghdioapaaGreatDoorLF1
import Derived.Test.YtnelgnghdioapaaGreatDoorLF2
import Derived.Test.YtnelgnghdioapaaGreatDoorLF3
import Derived.Test.YtnelgnghdioapaaGreatDoorLEv4
import Derived.KernelRfl
namespace Go.Ev.YtnelgnghdioapaaGreatDoor
open Go Go.Ev
set_option linter.unusedVariables false
set_option maxRecDepth 100000

theorem bare270:Bare Go.Proofs.Tryz.prog 270 Extern.MapsClone.clone := ⟨Go.Proofs.Tryz.f270, Go.Proofs.Tryz.func270, by kernel_rfl, by kernel_rfl, by kernel_rfl, by kernel_rfl⟩
theorem bare425:Bare Go.Proofs.Tryz.prog 425 Extern.BytealgIndexByte.indexByte := ⟨Go.Proofs.Tryz.f425, Go.Proofs.Tryz.func425, by kernel_rfl, by kernel_rfl, by kernel_rfl, by kernel_rfl⟩
theorem bare495:Bare Go.Proofs.Tryz.prog 495 Extern.BytealgCount.count := ⟨Go.Proofs.Tryz.f495, Go.Proofs.Tryz.func495, by kernel_rfl, by kernel_rfl, by kernel_rfl, by kernel_rfl⟩
def nren:Shelf.Ren := { f := fun x => match x with | 129 => 262 | 284 => 264 | 317 => 346 | 318 => 347 | _ => 0, t := fun x => match x with | 0 => 0 | 3 => 3 | 4 => 4 | 5 => 5 | 9 => 9 | 46 => 309 | 53 => 83 | 212 => 435 | _ => 0, g := fun _ => 0 }
theorem nlay:Go.Proofs.LaysM.n284 Go.Proofs.Tryz.prog nren where
  mixed := by kernel_rfl
  f129 := Go.Proofs.Tryz.func262.trans (by kernel_rfl)
  f284 := Go.Proofs.Tryz.func264.trans (by kernel_rfl)
  f317 := Go.Proofs.Tryz.func346.trans (by kernel_rfl)
  f318 := Go.Proofs.Tryz.func347.trans (by kernel_rfl)
  t0 := Go.Proofs.Tryz.underlying0
  a0 := Go.Proofs.Tryz.isAgg0
  z0 := Go.Proofs.Tryz.sizeOf0
  v0 := Go.Proofs.Tryz.zeroValue0
  i0 := by kernel_rfl
  t3 := Go.Proofs.Tryz.underlying3
  a3 := Go.Proofs.Tryz.isAgg3
  z3 := Go.Proofs.Tryz.sizeOf3
  v3 := Go.Proofs.Tryz.zeroValue3
  i3 := by kernel_rfl
  t4 := Go.Proofs.Tryz.underlying4
  a4 := Go.Proofs.Tryz.isAgg4
  z4 := Go.Proofs.Tryz.sizeOf4
  v4 := Go.Proofs.Tryz.zeroValue4
  i4 := by kernel_rfl
  t5 := Go.Proofs.Tryz.underlying5
  a5 := Go.Proofs.Tryz.isAgg5
  z5 := Go.Proofs.Tryz.sizeOf5
  v5 := Go.Proofs.Tryz.zeroValue5
  i5 := by kernel_rfl
  t9 := Go.Proofs.Tryz.underlying9
  a9 := Go.Proofs.Tryz.isAgg9
  z9 := Go.Proofs.Tryz.sizeOf9
  v9 := Go.Proofs.Tryz.zeroValue9
  i9 := by kernel_rfl
  t46 := Go.Proofs.Tryz.underlying309
  a46 := Go.Proofs.Tryz.isAgg309
  z46 := Go.Proofs.Tryz.sizeOf309
  v46 := Go.Proofs.Tryz.zeroValue309
  i46 := by kernel_rfl
  t53 := Go.Proofs.Tryz.underlying83
  a53 := Go.Proofs.Tryz.isAgg83
  z53 := Go.Proofs.Tryz.sizeOf83
  v53 := Go.Proofs.Tryz.zeroValue83
  i53 := by kernel_rfl
  t212 := Go.Proofs.Tryz.underlying435
  a212 := Go.Proofs.Tryz.isAgg435
  z212 := Go.Proofs.Tryz.sizeOf435
  v212 := Go.Proofs.Tryz.zeroValue435
  i212 := by kernel_rfl
  g17 := by kernel_rfl
  m17 := by kernel_rfl
theorem digits264:MH Go.Proofs.Tryz.prog 264 := fun u h1 h2 w ht => Go.Proofs.Any.internal_strconv_numDigits nlay u h1 h2 w ht
noncomputable abbrev rhoS (gl:EP):Env := Jt Go.Proofs.Tryz.prog [350, 411] gl
theorem oneS {gl:EP}:Bi (rhoS gl) := Vq
abbrev HT (gl:EP):Prop := OB PP gl "internal/strconv.uint64pow10" .u64 Lib.pow10Tab
variable {B:Nat}
noncomputable def ta0:FA := .mk none none none (some x3) none none none none (some x8) (some x9) (some x10) (some x11) (some x12) (some x13) (some x14) (some x15)
theorem oa0 {gl:EP} (hT:HT gl):Eb PP (rhoS gl) B 0 ta0 := Bs Al.no Al.no Al.no (Al.fn e3) Al.no Al.no Al.no Al.no (Al.fn e8) (Al.fn e9) (Al.fn e10) (Al.fn e11) (Al.fn e12) (Al.fn e13) (Al.fn e14) (Al.fn e15)
noncomputable def ta1:FA := .mk none none none none none none none none none none none none none none none (some x31)
theorem oa1 {gl:EP} (hT:HT gl):Eb PP (rhoS gl) B 16 ta1 := Bs Al.no Al.no Al.no Al.no Al.no Al.no Al.no Al.no Al.no Al.no Al.no Al.no Al.no Al.no Al.no (Al.fn e31)
noncomputable def ta2:FA := .mk (some x32) (some x33) (some x34) (some x35) (some x36) (some x37) (some x38) (some x39) (some x40) (some x41) (some x42) (some x43) none none none none
theorem oa2 {gl:EP} (hT:HT gl):Eb PP (rhoS gl) B 32 ta2 := Bs (Al.fn e32) (Al.fn e33) (Al.fn e34) (Al.fn e35) (Al.fn e36) (Al.fn e37) (Al.fn e38) (Al.fn e39) (Al.fn e40) (Al.fn e41) (Al.fn e42) (Al.fn e43) Al.no Al.no Al.no Al.no
noncomputable def ta3:FA := .mk none none none (some x51) (some x52) none none none none none (some x58) (some x59) (some x60) (some x61) (some x62) (some x63)
theorem oa3 {gl:EP} (hT:HT gl):Eb PP (rhoS gl) B 48 ta3 := Bs Al.no Al.no Al.no (Al.fn e51) (Al.fn e52) Al.no Al.no Al.no Al.no Al.no (Al.fn e58) (Al.fn e59) (Al.fn e60) (Al.fn e61) (Al.fn e62) (Al.fn e63)
noncomputable def ta4:FA := .mk (some (.prim (Cb ""))) (some x65) (some x66) (some x67) (some x68) (some x69) (some x70) (some x71) (some (.prim (Cb ""))) (some x73) (some (.prim (Cb ""))) (some x75) (some x76) (some x77) (some x78) (some x79)
theorem oa4 {gl:EP} (hT:HT gl):Eb PP (rhoS gl) B 64 ta4 := Bs (Al.noP _) (Al.fn e65) (Al.fn e66) (Al.fn e67) (Al.fn e68) (Al.fn e69) (Al.fn e70) (Al.fn e71) (Al.noP _) (Al.fn e73) (Al.noP _) (Al.fn e75) (Al.fn e76) (Al.fn e77) (Al.fn e78) (Al.fn e79)
noncomputable def ta5:FA := .mk (some x80) (some x81) (some x82) (some x83) (some x84) none none none none none (some x90) (some x91) (some x92) none none none
theorem oa5 {gl:EP} (hT:HT gl):Eb PP (rhoS gl) B 80 ta5 := Bs (Al.fn e80) (Al.fn e81) (Al.fn e82) (Al.fn e83) (Al.fn e84) Al.no Al.no Al.no Al.no Al.no (Al.fn e90) (Al.fn e91) (Al.fn e92) Al.no Al.no Al.no
noncomputable def ta6:FA := .mk none none none none none none (some x102) (some (.prim (Cb ""))) (some (.prim (Cb ""))) (some x105) (some x106) (some x107) none none none (some x111)
theorem oa6 {gl:EP} (hT:HT gl):Eb PP (rhoS gl) B 96 ta6 := Bs Al.no Al.no Al.no Al.no Al.no Al.no (Al.fn e102) (Al.noP _) (Al.noP _) (Al.fn e105) (Al.fn e106) (Al.fn e107) Al.no Al.no Al.no (Al.fn e111)
noncomputable def ta7:FA := .mk none (some (x113.toBr 400)) none none none none none (some x119) (some x120) (some x121) (some x122) (some x123) (some (.prim (Cb ""))) (some x125) (some x126) (some x127)
theorem oa7 {gl:EP} (hT:HT gl):Eb PP (rhoS gl) B 112 ta7 := Bs Al.no (Al.brX e113 ⟨_, _, _, rfl⟩) Al.no Al.no Al.no Al.no Al.no (Al.fn e119) (Al.fn e120) (Al.fn e121) (Al.fn e122) (Al.fn e123) (Al.noP _) (Al.fn e125) (Al.fn e126) (Al.fn e127)
noncomputable def ta8:FA := .mk (some x128) (some x129) (some (.prim (Cb ""))) (some x131) (some x132) (some x133) none none (some x136) (some x137) (some x138) (some x139) (some x140) (some x141) (some x142) (some x143)
theorem oa8 {gl:EP} (hT:HT gl):Eb PP (rhoS gl) B 128 ta8 := Bs (Al.fn e128) (Al.fn e129) (Al.noP _) (Al.fn e131) (Al.fn e132) (Al.fn e133) Al.no Al.no (Al.fn e136) (Al.fn e137) (Al.fn e138) (Al.fn e139) (Al.fn e140) (Al.fn e141) (Al.fn e142) (Al.fn e143)
noncomputable def ta9:FA := .mk (some x144) (some x145) (some x146) (some x147) (some x148) (some x149) (some x150) (some (.prim (Cb ""))) (some x152) none none none none none none none
theorem oa9 {gl:EP} (hT:HT gl):Eb PP (rhoS gl) B 144 ta9 := Bs (Al.fn e144) (Al.fn e145) (Al.fn e146) (Al.fn e147) (Al.fn e148) (Al.fn e149) (Al.fn e150) (Al.noP _) (Al.fn e152) Al.no Al.no Al.no Al.no Al.no Al.no Al.no
noncomputable def ta10:FA := .mk none none (some x162) (some x163) (some x164) none none none none none none none none none (some x174) (some x175)
theorem oa10 {gl:EP} (hT:HT gl):Eb PP (rhoS gl) B 160 ta10 := Bs Al.no Al.no (Al.fn e162) (Al.fn e163) (Al.fn e164) Al.no Al.no Al.no Al.no Al.no Al.no Al.no Al.no Al.no (Al.fn e174) (Al.fn e175)
noncomputable def ta11:FA := .mk (some (.prim (Cb ""))) (some x177) none none (some x180) (some x181) (some x182) (some x183) (some x184) (some x185) (some x186) (some x187) (some x188) none (some x190) (some x191)
theorem oa11 {gl:EP} (hT:HT gl):Eb PP (rhoS gl) B 176 ta11 := Bs (Al.noP _) (Al.fn e177) Al.no Al.no (Al.fn e180) (Al.fn e181) (Al.fn e182) (Al.fn e183) (Al.fn e184) (Al.fn e185) (Al.fn e186) (Al.fn e187) (Al.fn e188) Al.no (Al.fn e190) (Al.fn e191)
noncomputable def ta12:FA := .mk (some x192) none (some x194) none (some x196) (some x197) (some x198) (some (x199.toBr 400)) (some x200) (some x201) (some x202) (some x203) (some (.prim M5)) (some x205) (some x206) none
theorem oa12 {gl:EP} (hT:HT gl):Eb PP (rhoS gl) B 192 ta12 := Bs (Al.fn e192) Al.no (Al.fn e194) Al.no (Al.fn e196) (Al.fn e197) (Al.fn e198) (Al.brX e199 ⟨_, _, _, rfl⟩) (Al.fn e200) (Al.fn e201) (Al.fn e202) (Al.fn e203) (Al.pr (RO (g := 270) (by kernel_rfl) bare270)) (Al.fn e205) (Al.fn e206) Al.no
noncomputable def ta13:FA := .mk (some x208) (some x209) (some (x210.toBr 400)) (some (.prim (Cb ""))) (some x212) (some x213) (some x214) (some (.prim (Cb ""))) (some x216) (some x217) (some x218) (some x219) (some x220) (some (.prim (Cb ""))) (some x222) (some x223)
theorem oa13 {gl:EP} (hT:HT gl):Eb PP (rhoS gl) B 208 ta13 := Bs (Al.fn e208) (Al.fn e209) (Al.brX e210 ⟨_, _, _, rfl⟩) (Al.noP _) (Al.fn e212) (Al.fn e213) (Al.fn e214) (Al.noP _) (Al.fn e216) (Al.fn e217) (Al.fn e218) (Al.fn e219) (Al.fn e220) (Al.noP _) (Al.fn e222) (Al.fn e223)
noncomputable def ta14:FA := .mk (some x224) none none none none none none none none none none none none none none none
theorem oa14 {gl:EP} (hT:HT gl):Eb PP (rhoS gl) B 224 ta14 := Bs (Al.fn e224) Al.no Al.no Al.no Al.no Al.no Al.no Al.no Al.no Al.no Al.no Al.no Al.no Al.no Al.no Al.no
noncomputable def ta15:FA := .mk none none (some x242) (some x243) none none (some x246) (some x247) (some x248) (some x249) (some x250) none (some x252) none none none
theorem oa15 {gl:EP} (hT:HT gl):Eb PP (rhoS gl) B 240 ta15 := Bs Al.no Al.no (Al.fn e242) (Al.fn e243) Al.no Al.no (Al.fn e246) (Al.fn e247) (Al.fn e248) (Al.fn e249) (Al.fn e250) Al.no (Al.fn e252) Al.no Al.no Al.no
noncomputable def ta16:FA := .mk none none none none none (some x261) (some x262) (some x263) (some (.prim IQ)) (some x265) (some (.prim (Cb ""))) (some x267) (some x268) (some x269) none (some x271)
theorem oa16 {gl:EP} (hT:HT gl):Eb PP (rhoS gl) B 256 ta16 := Bs Al.no Al.no Al.no Al.no Al.no (Al.fn e261) (Al.fn e262) (Al.fn e263) (Al.pr (@Qp Go.Proofs.Tryz.prog (rhoS gl) B 264 Go.Proofs.Tryz.f264 gl Go.Proofs.Tryz.func264 (by kernel_rfl) (by kernel_rfl) digits264 rfl hT)) (Al.fn e265) (Al.noP _) (Al.fn e267) (Al.fn e268) (Al.fn e269) Al.no (Al.fn e271)
noncomputable def ta17:FA := .mk (some (.prim (Cb ""))) (some (.prim (Cb ""))) (some (.prim (Cb ""))) (some (.prim (Cb ""))) (some (.prim (Cb ""))) (some (.prim (Cb ""))) (some (.prim (Cb ""))) (some x279) (some (x280.toBr 400)) (some x281) (some x282) (some (.prim (Cb ""))) none none none (some (.prim (Cb "")))
theorem oa17 {gl:EP} (hT:HT gl):Eb PP (rhoS gl) B 272 ta17 := Bs (Al.noP _) (Al.noP _) (Al.noP _) (Al.noP _) (Al.noP _) (Al.noP _) (Al.noP _) (Al.fn e279) (Al.brX e280 ⟨_, _, _, rfl⟩) (Al.fn e281) (Al.fn e282) (Al.noP _) Al.no Al.no Al.no (Al.noP _)
noncomputable def ta18:FA := .mk (some x288) (some x289) none (some x291) (some x292) (some x293) none none none none none none none none none none
theorem oa18 {gl:EP} (hT:HT gl):Eb PP (rhoS gl) B 288 ta18 := Bs (Al.fn e288) (Al.fn e289) Al.no (Al.fn e291) (Al.fn e292) (Al.fn e293) Al.no Al.no Al.no Al.no Al.no Al.no Al.no Al.no Al.no Al.no
noncomputable def ta19:FA := .mk none none none none none none none none none none none none none none none none
theorem oa19 {gl:EP} (hT:HT gl):Eb PP (rhoS gl) B 304 ta19 := Bs Al.no Al.no Al.no Al.no Al.no Al.no Al.no Al.no Al.no Al.no Al.no Al.no Al.no Al.no Al.no Al.no
noncomputable def ta20:FA := .mk none none none none none (some x325) (some x326) none none none none (some x331) (some x332) (some (.prim (Cb ""))) (some (.prim (Cb ""))) (some (.prim (Cb "")))
theorem oa20 {gl:EP} (hT:HT gl):Eb PP (rhoS gl) B 320 ta20 := Bs Al.no Al.no Al.no Al.no Al.no (Al.fn e325) (Al.fn e326) Al.no Al.no Al.no Al.no (Al.fn e331) (Al.fn e332) (Al.noP _) (Al.noP _) (Al.noP _)
noncomputable def ta21:FA := .mk (some (.prim (Cb ""))) (some (.prim (Cb ""))) (some x338) (some (.prim (Cb ""))) (some (.prim (Cb ""))) none none none none none none none none none (some x350) none
theorem oa21 {gl:EP} (hT:HT gl):Eb PP (rhoS gl) B 336 ta21 := Bs (Al.noP _) (Al.noP _) (Al.fn e338) (Al.noP _) (Al.noP _) Al.no Al.no Al.no Al.no Al.no Al.no Al.no Al.no Al.no (Al.apE (DY.gl e350)) Al.no
noncomputable def ta22:FA := .mk none none (some x354) (some x355) (some x356) none (some x358) none none none none none none none none (some x367)
theorem oa22 {gl:EP} (hT:HT gl):Eb PP (rhoS gl) B 352 ta22 := Bs Al.no Al.no (Al.fn e354) (Al.fn e355) (Al.fn e356) Al.no (Al.fn e358) Al.no Al.no Al.no Al.no Al.no Al.no Al.no Al.no (Al.fn e367)
noncomputable def ta23:FA := .mk (some x368) (some x369) (some x370) (some (.prim (Cb ""))) (some (.prim (Cb ""))) (some (.prim (Cb ""))) (some x374) (some x375) none none none none none none none none
theorem oa23 {gl:EP} (hT:HT gl):Eb PP (rhoS gl) B 368 ta23 := Bs (Al.fn e368) (Al.fn e369) (Al.fn e370) (Al.noP _) (Al.noP _) (Al.noP _) (Al.fn e374) (Al.fn e375) Al.no Al.no Al.no Al.no Al.no Al.no Al.no Al.no
noncomputable def ta24:FA := .mk none none none none none none none none none none none none none none none none
theorem oa24 {gl:EP} (hT:HT gl):Eb PP (rhoS gl) B 384 ta24 := Bs Al.no Al.no Al.no Al.no Al.no Al.no Al.no Al.no Al.no Al.no Al.no Al.no Al.no Al.no Al.no Al.no
noncomputable def ta25:FA := .mk none (some x401) (some x402) none none none (some x406) none none none none (some x411) (some x412) (some (.prim (Cb ""))) none none
theorem oa25 {gl:EP} (hT:HT gl):Eb PP (rhoS gl) B 400 ta25 := Bs Al.no (Al.fn e401) (Al.fn e402) Al.no Al.no Al.no (Al.fn e406) Al.no Al.no Al.no Al.no (Al.apE (DY.gl e411)) (Al.fn e412) (Al.noP _) Al.no Al.no
noncomputable def ta26:FA := .mk none none none none none none (some x422) (some x423) (some x424) (some (.prim Fb)) none none none none none none
theorem oa26 {gl:EP} (hT:HT gl):Eb PP (rhoS gl) B 416 ta26 := Bs Al.no Al.no Al.no Al.no Al.no Al.no (Al.fn e422) (Al.fn e423) (Al.fn e424) (Al.pr (@GW Go.Proofs.Tryz.prog (rhoS gl) B 425 bare425)) Al.no Al.no Al.no Al.no Al.no Al.no
noncomputable def ta27:FA := .mk none none none none none none none none none none none none none none none none
theorem oa27 {gl:EP} (hT:HT gl):Eb PP (rhoS gl) B 432 ta27 := Bs Al.no Al.no Al.no Al.no Al.no Al.no Al.no Al.no Al.no Al.no Al.no Al.no Al.no Al.no Al.no Al.no
noncomputable def ta28:FA := .mk none (some x449) (some (.prim (Cb ""))) (some (.prim (Cb ""))) (some (.prim (Cb ""))) (some (.prim (Cb ""))) (some (.prim (Cb ""))) (some (.prim (Cb ""))) (some (.prim (Cb ""))) none none none none none none none
theorem oa28 {gl:EP} (hT:HT gl):Eb PP (rhoS gl) B 448 ta28 := Bs Al.no (Al.fn e449) (Al.noP _) (Al.noP _) (Al.noP _) (Al.noP _) (Al.noP _) (Al.noP _) (Al.noP _) Al.no Al.no Al.no Al.no Al.no Al.no Al.no
noncomputable def tb0:FB := .mk ta0 ta1 ta2 ta3 ta4 ta5 ta6 ta7 ta8 ta9 ta10 ta11 ta12 ta13 ta14 ta15
theorem ob0 {gl:EP} (hT:HT gl):LG PP (rhoS gl) B 0 tb0 := Rc (oa0 hT) (oa1 hT) (oa2 hT) (oa3 hT) (oa4 hT) (oa5 hT) (oa6 hT) (oa7 hT) (oa8 hT) (oa9 hT) (oa10 hT) (oa11 hT) (oa12 hT) (oa13 hT) (oa14 hT) (oa15 hT)
noncomputable def tb1:FB := .mk ta16 ta17 ta18 ta19 ta20 ta21 ta22 ta23 ta24 ta25 ta26 ta27 ta28 Kf Kf Kf
theorem ob1 {gl:EP} (hT:HT gl):LG PP (rhoS gl) B 256 tb1 := Rc (oa16 hT) (oa17 hT) (oa18 hT) (oa19 hT) (oa20 hT) (oa21 hT) (oa22 hT) (oa23 hT) (oa24 hT) (oa25 hT) (oa26 hT) (oa27 hT) (oa28 hT) Mf Mf Mf
noncomputable def tab:FC := .mk tb0 tb1 Mi Mi Mi Mi Mi Mi Mi Mi Mi Mi Mi Mi Mi Mi
theorem tab_ok {gl:EP} (hT:HT gl) (B:Nat):JV Go.Proofs.Tryz.prog (rhoS gl) B tab := .mkG (Uy (ob0 hT) (ob1 hT) Dp Dp Dp Dp Dp Dp Dp Dp Dp Dp Dp Dp Dp) (Pe ⟨x350, by kernel_rfl, DY.gl e350⟩ (Pe ⟨x411, by kernel_rfl, DY.gl e411⟩ U2))
end Go.Ev.YtnelgnghdioapaaGreatDoor
