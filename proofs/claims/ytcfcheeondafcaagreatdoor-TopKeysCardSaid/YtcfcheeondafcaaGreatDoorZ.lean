/- The table of the functions. -/
import Derived.Test.YtcfcheeondafcaaGreatDoorF0
import Derived.Test.YtcfcheeondafcaaGreatDoorF1
import Derived.Test.YtcfcheeondafcaaGreatDoorF2
import Derived.Test.YtcfcheeondafcaaGreatDoorF3
import Derived.Test.YtcfcheeondafcaaGreatDoorF4
import Derived.Test.YtcfcheeondafcaaGreatDoorF5
import Derived.Test.YtcfcheeondafcaaGreatDoorF6
import Derived.Test.YtcfcheeondafcaaGreatDoorEv4
import Derived.Test.YtcfcheeondafcaaGreatDoorS
import Derived.KernelRfl
namespace Go.Ev.YtcfcheeondafcaaGreatDoor
open Go Go.Ev
set_option linter.unusedVariables false
set_option maxRecDepth 100000

theorem bare220 : Bare Go.Proofs.Tryz.prog 220 Extern.MapsClone.clone := ⟨Go.Proofs.Tryz.f220, Go.Proofs.Tryz.func220, by kernel_rfl, by kernel_rfl, by kernel_rfl, by kernel_rfl⟩
theorem bare393 : Bare Go.Proofs.Tryz.prog 393 Extern.BytealgIndexByte.indexByte := ⟨Go.Proofs.Tryz.f393, Go.Proofs.Tryz.func393, by kernel_rfl, by kernel_rfl, by kernel_rfl, by kernel_rfl⟩
theorem bare452 : Bare Go.Proofs.Tryz.prog 452 Extern.BytealgCount.count := ⟨Go.Proofs.Tryz.f452, Go.Proofs.Tryz.func452, by kernel_rfl, by kernel_rfl, by kernel_rfl, by kernel_rfl⟩
def nren : Shelf.Ren := { f := fun x => match x with | 129 => 136 | 284 => 357 | 317 => 425 | 318 => 426 | _ => 0, t := fun x => match x with | 0 => 0 | 3 => 3 | 4 => 4 | 5 => 5 | 9 => 9 | 46 => 177 | 53 => 112 | 212 => 493 | _ => 0, g := fun _ => 1 }
theorem nlay : Go.Proofs.LaysM.n284 Go.Proofs.Tryz.prog nren where
  mixed := by kernel_rfl
  f129 := Go.Proofs.Tryz.func136.trans (by kernel_rfl)
  f284 := Go.Proofs.Tryz.func357.trans (by kernel_rfl)
  f317 := Go.Proofs.Tryz.func425.trans (by kernel_rfl)
  f318 := Go.Proofs.Tryz.func426.trans (by kernel_rfl)
  t0 := Go.Proofs.Tryz.underlying0
  a0 := Go.Proofs.Tryz.isAgg0
  z0 := Go.Proofs.Tryz.sizeOf0
  v0 := Go.Proofs.Tryz.zeroValue0
  i0 := by kernel_rfl
  t3 := Go.Proofs.Tryz.underlying3
  a3 := Go.Proofs.Tryz.isAgg3
  z3 := Go.Proofs.Tryz.sizeOf3
  v3 := Go.Proofs.Tryz.zeroValue3
  i3 := by kernel_rfl
  t4 := Go.Proofs.Tryz.underlying4
  a4 := Go.Proofs.Tryz.isAgg4
  z4 := Go.Proofs.Tryz.sizeOf4
  v4 := Go.Proofs.Tryz.zeroValue4
  i4 := by kernel_rfl
  t5 := Go.Proofs.Tryz.underlying5
  a5 := Go.Proofs.Tryz.isAgg5
  z5 := Go.Proofs.Tryz.sizeOf5
  v5 := Go.Proofs.Tryz.zeroValue5
  i5 := by kernel_rfl
  t9 := Go.Proofs.Tryz.underlying9
  a9 := Go.Proofs.Tryz.isAgg9
  z9 := Go.Proofs.Tryz.sizeOf9
  v9 := Go.Proofs.Tryz.zeroValue9
  i9 := by kernel_rfl
  t46 := Go.Proofs.Tryz.underlying177
  a46 := Go.Proofs.Tryz.isAgg177
  z46 := Go.Proofs.Tryz.sizeOf177
  v46 := Go.Proofs.Tryz.zeroValue177
  i46 := by kernel_rfl
  t53 := Go.Proofs.Tryz.underlying112
  a53 := Go.Proofs.Tryz.isAgg112
  z53 := Go.Proofs.Tryz.sizeOf112
  v53 := Go.Proofs.Tryz.zeroValue112
  i53 := by kernel_rfl
  t212 := Go.Proofs.Tryz.underlying493
  a212 := Go.Proofs.Tryz.isAgg493
  z212 := Go.Proofs.Tryz.sizeOf493
  v212 := Go.Proofs.Tryz.zeroValue493
  i212 := by kernel_rfl
  g17 := by kernel_rfl
  m17 := by kernel_rfl
theorem digits357 : DigitsFn Go.Proofs.Tryz.prog 357 := fun u h1 h2 w ht => Go.Proofs.Any.internal_strconv_numDigits nlay u h1 h2 w ht
def jren : Shelf.Ren := { f := fun x => match x with | 156 => 233 | 165 => 302 | 166 => 303 | 169 => 304 | 240 => 390 | 241 => 391 | 276 => 453 | 277 => 454 | _ => 0, t := fun x => match x with | 0 => 0 | 3 => 3 | 4 => 4 | 5 => 5 | 9 => 9 | 20 => 20 | 31 => 23 | 37 => 94 | 70 => 397 | 72 => 399 | 75 => 401 | 76 => 402 | 80 => 249 | 127 => 468 | 164 => 519 | _ => 0, g := fun _ => 0 }
theorem jlay : Go.Proofs.Lays.n156 Go.Proofs.Tryz.prog jren where
  mixed := by kernel_rfl
  f156 := Go.Proofs.Tryz.func233.trans (by kernel_rfl)
  f165 := Go.Proofs.Tryz.func302.trans (by kernel_rfl)
  f166 := Go.Proofs.Tryz.func303.trans (by kernel_rfl)
  f169 := Go.Proofs.Tryz.func304.trans (by kernel_rfl)
  f240 := Go.Proofs.Tryz.func390.trans (by kernel_rfl)
  f241 := Go.Proofs.Tryz.func391.trans (by kernel_rfl)
  f276 := Go.Proofs.Tryz.func453.trans (by kernel_rfl)
  f277 := Go.Proofs.Tryz.func454.trans (by kernel_rfl)
  t0 := Go.Proofs.Tryz.underlying0
  a0 := Go.Proofs.Tryz.isAgg0
  z0 := Go.Proofs.Tryz.sizeOf0
  v0 := Go.Proofs.Tryz.zeroValue0
  t3 := Go.Proofs.Tryz.underlying3
  a3 := Go.Proofs.Tryz.isAgg3
  z3 := Go.Proofs.Tryz.sizeOf3
  v3 := Go.Proofs.Tryz.zeroValue3
  t4 := Go.Proofs.Tryz.underlying4
  a4 := Go.Proofs.Tryz.isAgg4
  z4 := Go.Proofs.Tryz.sizeOf4
  v4 := Go.Proofs.Tryz.zeroValue4
  t9 := Go.Proofs.Tryz.underlying9
  a9 := Go.Proofs.Tryz.isAgg9
  z9 := Go.Proofs.Tryz.sizeOf9
  v9 := Go.Proofs.Tryz.zeroValue9
  t20 := Go.Proofs.Tryz.underlying20
  a20 := Go.Proofs.Tryz.isAgg20
  z20 := Go.Proofs.Tryz.sizeOf20
  v20 := Go.Proofs.Tryz.zeroValue20
  t31 := Go.Proofs.Tryz.underlying23
  a31 := Go.Proofs.Tryz.isAgg23
  z31 := Go.Proofs.Tryz.sizeOf23
  v31 := Go.Proofs.Tryz.zeroValue23
  t37 := Go.Proofs.Tryz.underlying94
  a37 := Go.Proofs.Tryz.isAgg94
  z37 := Go.Proofs.Tryz.sizeOf94
  v37 := Go.Proofs.Tryz.zeroValue94
  t70 := Go.Proofs.Tryz.underlying397
  a70 := Go.Proofs.Tryz.isAgg397
  z70 := Go.Proofs.Tryz.sizeOf397
  v70 := Go.Proofs.Tryz.zeroValue397
  t72 := Go.Proofs.Tryz.underlying399
  a72 := Go.Proofs.Tryz.isAgg399
  z72 := Go.Proofs.Tryz.sizeOf399
  v72 := Go.Proofs.Tryz.zeroValue399
  t75 := Go.Proofs.Tryz.underlying401
  a75 := Go.Proofs.Tryz.isAgg401
  z75 := Go.Proofs.Tryz.sizeOf401
  v75 := Go.Proofs.Tryz.zeroValue401
  t76 := Go.Proofs.Tryz.underlying402
  a76 := Go.Proofs.Tryz.isAgg402
  z76 := Go.Proofs.Tryz.sizeOf402
  v76 := Go.Proofs.Tryz.zeroValue402
  t127 := Go.Proofs.Tryz.underlying468
  a127 := Go.Proofs.Tryz.isAgg468
  z127 := Go.Proofs.Tryz.sizeOf468
  v127 := Go.Proofs.Tryz.zeroValue468
  t164 := Go.Proofs.Tryz.underlying519
  a164 := Go.Proofs.Tryz.isAgg519
  z164 := Go.Proofs.Tryz.sizeOf519
  v164 := Go.Proofs.Tryz.zeroValue519
theorem jext : Go.Proofs.Builder.Extra Go.Proofs.Tryz.prog jren where
  sizeBuilder := by kernel_rfl
  liesBuilder := by kernel_rfl
  t5 := Go.Proofs.Tryz.underlying5
  a5 := Go.Proofs.Tryz.isAgg5
  z5 := Go.Proofs.Tryz.sizeOf5
  v5 := Go.Proofs.Tryz.zeroValue5
  infoByte := by kernel_rfl
  cellsByte := by kernel_rfl
  sizeByte := by kernel_rfl
  neB5 := by decide

theorem join233 : JoinFn Go.Proofs.Tryz.prog 233 := fun bk o c xs sep w h1 h2 h3 h4 h5 => Go.Proofs.Any.strings_Join jlay jext bk o c xs sep w h1 h2 h3 h4 h5
noncomputable abbrev rhoS (gl : GlF) : Env := envGl Go.Proofs.Tryz.prog [88, 292, 490, 495] gl
theorem oneS {gl : GlF} : OneSym (rhoS gl) := oneGl
abbrev HT (gl : GlF) : Prop := TabG PP gl "internal/strconv.uint64pow10" .u64 Lib.pow10Tab
variable {B : Nat}
namespace Z
noncomputable def ta0:FA:=.mk none none none (some x3) none none none (some x7) (some (.tree pSmall)) (some x9) (some x10) (some x11) (some x12) (some x13) none (some x15)
theorem oa0 {gl : GlF} (hT : HT gl) : OKA PP (rhoS gl) B 0 ta0:=okA_mk OKO.no OKO.no OKO.no (OKO.fn e3) OKO.no OKO.no OKO.no (OKO.fn e7) (OKO.tr (@small_ok Go.Proofs.Tryz.prog (rhoS gl) B 8 Go.Proofs.Tryz.f8 Go.Proofs.Tryz.func8 (by kernel_rfl) (by kernel_rfl) small_fn)) (OKO.fn e9) (OKO.fn e10) (OKO.fn e11) (OKO.fn e12) (OKO.fn e13) OKO.no (OKO.fn e15)
noncomputable def ta1:FA:=.mk none (some x17) none none (some x20) (some (.prim (noFn "function 21"))) (some x22) (some x23) (some x24) (some x25) (some x26) (some x27) (some x28) (some x29) (some x30) (some x31)
theorem oa1 {gl : GlF} (hT : HT gl) : OKA PP (rhoS gl) B 16 ta1:=okA_mk OKO.no (OKO.fn e17) OKO.no OKO.no (OKO.fn e20) (OKO.noP _) (OKO.fn e22) (OKO.fn e23) (OKO.fn e24) (OKO.fn e25) (OKO.fn e26) (OKO.fn e27) (OKO.fn e28) (OKO.fn e29) (OKO.fn e30) (OKO.fn e31)
noncomputable def ta2:FA:=.mk (some x32) (some x33) (some x34) (some x35) (some x36) (some x37) (some x38) (some x39) none (some x41) (some x42) (some x43) (some x44) (some (x45.toBr 400)) (some x46) (some x47)
theorem oa2 {gl : GlF} (hT : HT gl) : OKA PP (rhoS gl) B 32 ta2:=okA_mk (OKO.fn e32) (OKO.fn e33) (OKO.fn e34) (OKO.fn e35) (OKO.fn e36) (OKO.fn e37) (OKO.fn e38) (OKO.fn e39) OKO.no (OKO.fn e41) (OKO.fn e42) (OKO.fn e43) (OKO.fn e44) (OKO.brX e45 ⟨_, _, _, rfl⟩) (OKO.fn e46) (OKO.fn e47)
noncomputable def ta3:FA:=.mk (some x48) (some x49) (some x50) (some x51) (some x52) (some x53) (some x54) (some x55) (some x56) (some x57) (some x58) (some x59) (some (.prim (noFn "function 60"))) (some x61) (some x62) (some x63)
theorem oa3 {gl : GlF} (hT : HT gl) : OKA PP (rhoS gl) B 48 ta3:=okA_mk (OKO.fn e48) (OKO.fn e49) (OKO.fn e50) (OKO.fn e51) (OKO.fn e52) (OKO.fn e53) (OKO.fn e54) (OKO.fn e55) (OKO.fn e56) (OKO.fn e57) (OKO.fn e58) (OKO.fn e59) (OKO.noP _) (OKO.fn e61) (OKO.fn e62) (OKO.fn e63)
noncomputable def ta4:FA:=.mk (some x64) (some x65) (some x66) (some x67) (some x68) (some x69) (some x70) (some x71) (some x72) (some x73) (some x74) (some x75) (some x76) (some x77) (some x78) (some x79)
theorem oa4 {gl : GlF} (hT : HT gl) : OKA PP (rhoS gl) B 64 ta4:=okA_mk (OKO.fn e64) (OKO.fn e65) (OKO.fn e66) (OKO.fn e67) (OKO.fn e68) (OKO.fn e69) (OKO.fn e70) (OKO.fn e71) (OKO.fn e72) (OKO.fn e73) (OKO.fn e74) (OKO.fn e75) (OKO.fn e76) (OKO.fn e77) (OKO.fn e78) (OKO.fn e79)
noncomputable def ta5:FA:=.mk (some x80) (some x81) none none none (some x85) (some x86) (some x87) (some x88) (some x89) (some x90) (some x91) (some x92) (some (.prim (noFn "function 93"))) (some (.prim (noFn "function 94"))) (some x95)
theorem oa5 {gl : GlF} (hT : HT gl) : OKA PP (rhoS gl) B 80 ta5:=okA_mk (OKO.fn e80) (OKO.fn e81) OKO.no OKO.no OKO.no (OKO.fn e85) (OKO.fn e86) (OKO.fn e87) (OKO.apE (ApEnt.gl e88)) (OKO.fn e89) (OKO.fn e90) (OKO.fn e91) (OKO.fn e92) (OKO.noP _) (OKO.noP _) (OKO.fn e95)
noncomputable def ta6:FA:=.mk (some x96) (some (.prim (noFn "function 97"))) (some x98) (some (.prim (noFn "function 99"))) (some (.prim (noFn "function 100"))) (some x101) (some (.prim (noFn "function 102"))) (some x103) (some x104) (some x105) (some x106) (some x107) (some x108) none (some x110) none
theorem oa6 {gl : GlF} (hT : HT gl) : OKA PP (rhoS gl) B 96 ta6:=okA_mk (OKO.fn e96) (OKO.noP _) (OKO.fn e98) (OKO.noP _) (OKO.noP _) (OKO.fn e101) (OKO.noP _) (OKO.fn e103) (OKO.fn e104) (OKO.fn e105) (OKO.fn e106) (OKO.fn e107) (OKO.fn e108) OKO.no (OKO.fn e110) OKO.no
noncomputable def ta7:FA:=.mk none (some (.prim (noFn "function 113"))) (some x114) none (some x116) none (some x118) none none (some x121) (some (.prim (noFn "function 122"))) (some x123) (some x124) (some x125) (some x126) (some (.prim (noFn "function 127")))
theorem oa7 {gl : GlF} (hT : HT gl) : OKA PP (rhoS gl) B 112 ta7:=okA_mk OKO.no (OKO.noP _) (OKO.fn e114) OKO.no (OKO.fn e116) OKO.no (OKO.fn e118) OKO.no OKO.no (OKO.fn e121) (OKO.noP _) (OKO.fn e123) (OKO.fn e124) (OKO.fn e125) (OKO.fn e126) (OKO.noP _)
noncomputable def ta8:FA:=.mk (some (.prim (noFn "function 128"))) (some (.prim (noFn "function 129"))) (some (.prim (noFn "function 130"))) (some (.prim (noFn "function 131"))) (some x132) (some (.prim (noFn "function 133"))) (some (.prim (noFn "function 134"))) (some x135) (some x136) (some x137) (some x138) (some (.prim pClone)) (some x140) (some (x141.toBr 400)) (some x142) (some x143)
theorem oa8 {gl : GlF} (hT : HT gl) : OKA PP (rhoS gl) B 128 ta8:=okA_mk (OKO.noP _) (OKO.noP _) (OKO.noP _) (OKO.noP _) (OKO.fn e132) (OKO.noP _) (OKO.noP _) (OKO.fn e135) (OKO.fn e136) (OKO.fn e137) (OKO.fn e138) (OKO.pr (clone_ok (g := 220) (by kernel_rfl) bare220)) (OKO.fn e140) (OKO.brX e141 ⟨_, _, _, rfl⟩) (OKO.fn e142) (OKO.fn e143)
noncomputable def ta9:FA:=.mk none none (some x146) (some x147) (some x148) none (some x150) (some x151) (some x152) (some x153) (some x154) (some x155) (some x156) none (some (.prim (noFn "function 158"))) (some (.prim (noFn "function 159")))
theorem oa9 {gl : GlF} (hT : HT gl) : OKA PP (rhoS gl) B 144 ta9:=okA_mk OKO.no OKO.no (OKO.fn e146) (OKO.fn e147) (OKO.fn e148) OKO.no (OKO.fn e150) (OKO.fn e151) (OKO.fn e152) (OKO.fn e153) (OKO.fn e154) (OKO.fn e155) (OKO.fn e156) OKO.no (OKO.noP _) (OKO.noP _)
noncomputable def ta10:FA:=.mk (some x160) (some x161) (some x162) none (some (.prim (noFn "function 164"))) (some x165) (some x166) (some x167) (some x168) (some x169) (some x170) (some x171) (some x172) (some x173) (some (.prim (noFn "function 174"))) none
theorem oa10 {gl : GlF} (hT : HT gl) : OKA PP (rhoS gl) B 160 ta10:=okA_mk (OKO.fn e160) (OKO.fn e161) (OKO.fn e162) OKO.no (OKO.noP _) (OKO.fn e165) (OKO.fn e166) (OKO.fn e167) (OKO.fn e168) (OKO.fn e169) (OKO.fn e170) (OKO.fn e171) (OKO.fn e172) (OKO.fn e173) (OKO.noP _) OKO.no
noncomputable def ta11:FA:=.mk none none (some (x178.toBr 400)) none none (some x181) none none none (some x185) (some x186) (some x187) none none (some x190) (some x191)
theorem oa11 {gl : GlF} (hT : HT gl) : OKA PP (rhoS gl) B 176 ta11:=okA_mk OKO.no OKO.no (OKO.brX e178 ⟨_, _, _, rfl⟩) OKO.no OKO.no (OKO.fn e181) OKO.no OKO.no OKO.no (OKO.fn e185) (OKO.fn e186) (OKO.fn e187) OKO.no OKO.no (OKO.fn e190) (OKO.fn e191)
noncomputable def ta12:FA:=.mk (some x192) (some x193) (some x194) (some x195) (some x196) (some x197) (some x198) (some x199) (some x200) (some x201) (some x202) (some x203) (some x204) (some x205) (some x206) none
theorem oa12 {gl : GlF} (hT : HT gl) : OKA PP (rhoS gl) B 192 ta12:=okA_mk (OKO.fn e192) (OKO.fn e193) (OKO.fn e194) (OKO.fn e195) (OKO.fn e196) (OKO.fn e197) (OKO.fn e198) (OKO.fn e199) (OKO.fn e200) (OKO.fn e201) (OKO.fn e202) (OKO.fn e203) (OKO.fn e204) (OKO.fn e205) (OKO.fn e206) OKO.no
noncomputable def ta13:FA:=.mk none none none none (some x212) (some x213) (some x214) (some x215) (some x216) (some (.prim (noFn "function 217"))) (some x218) (some x219) none (some x221) (some x222) (some x223)
theorem oa13 {gl : GlF} (hT : HT gl) : OKA PP (rhoS gl) B 208 ta13:=okA_mk OKO.no OKO.no OKO.no OKO.no (OKO.fn e212) (OKO.fn e213) (OKO.fn e214) (OKO.fn e215) (OKO.fn e216) (OKO.noP _) (OKO.fn e218) (OKO.fn e219) OKO.no (OKO.fn e221) (OKO.fn e222) (OKO.fn e223)
noncomputable def ta14:FA:=.mk none (some (.prim (noFn "function 225"))) (some x226) none none (some x229) (some x230) (some x231) (some x232) (some (.prim pJoin)) (some x234) (some x235) (some x236) none (some x238) (some x239)
theorem oa14 {gl : GlF} (hT : HT gl) : OKA PP (rhoS gl) B 224 ta14:=okA_mk OKO.no (OKO.noP _) (OKO.fn e226) OKO.no OKO.no (OKO.fn e229) (OKO.fn e230) (OKO.fn e231) (OKO.fn e232) (OKO.pr (@join_ok Go.Proofs.Tryz.prog (rhoS gl) B 233 Go.Proofs.Tryz.f233 Go.Proofs.Tryz.func233 (by kernel_rfl) (by kernel_rfl) join233)) (OKO.fn e234) (OKO.fn e235) (OKO.fn e236) OKO.no (OKO.fn e238) (OKO.fn e239)
noncomputable def ta15:FA:=.mk (some x240) (some x241) (some x242) none none (some x245) (some x246) (some x247) (some x248) (some x249) (some x250) (some x251) none none none none
theorem oa15 {gl : GlF} (hT : HT gl) : OKA PP (rhoS gl) B 240 ta15:=okA_mk (OKO.fn e240) (OKO.fn e241) (OKO.fn e242) OKO.no OKO.no (OKO.fn e245) (OKO.fn e246) (OKO.fn e247) (OKO.fn e248) (OKO.fn e249) (OKO.fn e250) (OKO.fn e251) OKO.no OKO.no OKO.no OKO.no
noncomputable def ta16:FA:=.mk (some x256) none none (some x259) (some x260) (some x261) (some x262) (some x263) (some x264) (some x265) (some x266) (some x267) (some x268) (some x269) (some x270) (some x271)
theorem oa16 {gl : GlF} (hT : HT gl) : OKA PP (rhoS gl) B 256 ta16:=okA_mk (OKO.fn e256) OKO.no OKO.no (OKO.fn e259) (OKO.fn e260) (OKO.fn e261) (OKO.fn e262) (OKO.fn e263) (OKO.fn e264) (OKO.fn e265) (OKO.fn e266) (OKO.fn e267) (OKO.fn e268) (OKO.fn e269) (OKO.fn e270) (OKO.fn e271)
noncomputable def ta17:FA:=.mk (some x272) (some x273) (some x274) none (some x276) (some (.prim (noFn "function 277"))) (some (.prim (noFn "function 278"))) (some x279) none none (some x282) none none none none none
theorem oa17 {gl : GlF} (hT : HT gl) : OKA PP (rhoS gl) B 272 ta17:=okA_mk (OKO.fn e272) (OKO.fn e273) (OKO.fn e274) OKO.no (OKO.fn e276) (OKO.noP _) (OKO.noP _) (OKO.fn e279) OKO.no OKO.no (OKO.fn e282) OKO.no OKO.no OKO.no OKO.no OKO.no
noncomputable def ta18:FA:=.mk (some x288) (some x289) (some x290) (some x291) (some x292) (some x293) (some x294) (some x295) (some x296) (some x297) none none (some x300) (some x301) none none
theorem oa18 {gl : GlF} (hT : HT gl) : OKA PP (rhoS gl) B 288 ta18:=okA_mk (OKO.fn e288) (OKO.fn e289) (OKO.fn e290) (OKO.fn e291) (OKO.apE (ApEnt.gl e292)) (OKO.fn e293) (OKO.fn e294) (OKO.fn e295) (OKO.fn e296) (OKO.fn e297) OKO.no OKO.no (OKO.fn e300) (OKO.fn e301) OKO.no OKO.no
noncomputable def ta19:FA:=.mk none (some x305) (some x306) (some x307) (some x308) (some x309) (some (.prim (noFn "function 310"))) (some x311) (some x312) (some x313) (some x314) (some x315) (some x316) (some x317) (some x318) (some x319)
theorem oa19 {gl : GlF} (hT : HT gl) : OKA PP (rhoS gl) B 304 ta19:=okA_mk OKO.no (OKO.fn e305) (OKO.fn e306) (OKO.fn e307) (OKO.fn e308) (OKO.fn e309) (OKO.noP _) (OKO.fn e311) (OKO.fn e312) (OKO.fn e313) (OKO.fn e314) (OKO.fn e315) (OKO.fn e316) (OKO.fn e317) (OKO.fn e318) (OKO.fn e319)
noncomputable def ta20:FA:=.mk (some x320) (some x321) (some x322) (some x323) none (some x325) (some x326) (some x327) (some x328) (some x329) (some x330) (some x331) (some x332) (some x333) (some x334) none
theorem oa20 {gl : GlF} (hT : HT gl) : OKA PP (rhoS gl) B 320 ta20:=okA_mk (OKO.fn e320) (OKO.fn e321) (OKO.fn e322) (OKO.fn e323) OKO.no (OKO.fn e325) (OKO.fn e326) (OKO.fn e327) (OKO.fn e328) (OKO.fn e329) (OKO.fn e330) (OKO.fn e331) (OKO.fn e332) (OKO.fn e333) (OKO.fn e334) OKO.no
noncomputable def ta21:FA:=.mk none none none none none none none none none (some x345) (some x346) (some x347) (some (.prim (noFn "function 348"))) (some (.prim (noFn "function 349"))) (some (.prim (noFn "function 350"))) (some (.prim (noFn "function 351")))
theorem oa21 {gl : GlF} (hT : HT gl) : OKA PP (rhoS gl) B 336 ta21:=okA_mk OKO.no OKO.no OKO.no OKO.no OKO.no OKO.no OKO.no OKO.no OKO.no (OKO.fn e345) (OKO.fn e346) (OKO.fn e347) (OKO.noP _) (OKO.noP _) (OKO.noP _) (OKO.noP _)
noncomputable def ta22:FA:=.mk (some (.prim (noFn "function 352"))) (some (.prim (noFn "function 353"))) (some (.prim (noFn "function 354"))) (some x355) (some x356) (some (.prim pDigits)) (some x358) (some (.prim (noFn "function 359"))) (some (.prim (noFn "function 360"))) none none (some x363) none (some x365) none none
theorem oa22 {gl : GlF} (hT : HT gl) : OKA PP (rhoS gl) B 352 ta22:=okA_mk (OKO.noP _) (OKO.noP _) (OKO.noP _) (OKO.fn e355) (OKO.fn e356) (OKO.pr (@digits_ok Go.Proofs.Tryz.prog (rhoS gl) B 357 Go.Proofs.Tryz.f357 gl Go.Proofs.Tryz.func357 (by kernel_rfl) (by kernel_rfl) digits357 rfl hT)) (OKO.fn e358) (OKO.noP _) (OKO.noP _) OKO.no OKO.no (OKO.fn e363) OKO.no (OKO.fn e365) OKO.no OKO.no
noncomputable def ta23:FA:=.mk (some x368) (some x369) (some x370) (some (.prim (noFn "function 371"))) (some (.prim (noFn "function 372"))) (some (.prim (noFn "function 373"))) (some (.prim (noFn "function 374"))) (some (.prim (noFn "function 375"))) (some x376) (some (.prim (noFn "function 377"))) (some (.prim (noFn "function 378"))) (some x379) (some x380) (some (x381.toBr 400)) (some x382) (some x383)
theorem oa23 {gl : GlF} (hT : HT gl) : OKA PP (rhoS gl) B 368 ta23:=okA_mk (OKO.fn e368) (OKO.fn e369) (OKO.fn e370) (OKO.noP _) (OKO.noP _) (OKO.noP _) (OKO.noP _) (OKO.noP _) (OKO.fn e376) (OKO.noP _) (OKO.noP _) (OKO.fn e379) (OKO.fn e380) (OKO.brX e381 ⟨_, _, _, rfl⟩) (OKO.fn e382) (OKO.fn e383)
noncomputable def ta24:FA:=.mk (some (.prim (noFn "function 384"))) (some (.prim (noFn "function 385"))) (some (.prim (noFn "function 386"))) (some (.prim (noFn "function 387"))) (some x388) (some x389) none none (some x392) (some (.prim pIndexByteString)) (some (.prim (noFn "function 394"))) (some x395) (some (x396.toBr 400)) (some x397) (some x398) (some x399)
theorem oa24 {gl : GlF} (hT : HT gl) : OKA PP (rhoS gl) B 384 ta24:=okA_mk (OKO.noP _) (OKO.noP _) (OKO.noP _) (OKO.noP _) (OKO.fn e388) (OKO.fn e389) OKO.no OKO.no (OKO.fn e392) (OKO.pr (@indexByteString_ok Go.Proofs.Tryz.prog (rhoS gl) B 393 bare393)) (OKO.noP _) (OKO.fn e395) (OKO.brX e396 ⟨_, _, _, rfl⟩) (OKO.fn e397) (OKO.fn e398) (OKO.fn e399)
noncomputable def ta25:FA:=.mk (some x400) (some x401) (some x402) (some x403) (some x404) (some x405) (some x406) (some x407) (some x408) (some x409) (some x410) (some x411) (some x412) (some x413) (some (.prim (noFn "function 414"))) (some x415)
theorem oa25 {gl : GlF} (hT : HT gl) : OKA PP (rhoS gl) B 400 ta25:=okA_mk (OKO.fn e400) (OKO.fn e401) (OKO.fn e402) (OKO.fn e403) (OKO.fn e404) (OKO.fn e405) (OKO.fn e406) (OKO.fn e407) (OKO.fn e408) (OKO.fn e409) (OKO.fn e410) (OKO.fn e411) (OKO.fn e412) (OKO.fn e413) (OKO.noP _) (OKO.fn e415)
noncomputable def ta26:FA:=.mk none none none none (some x420) none none none (some x424) none none none none none none none
theorem oa26 {gl : GlF} (hT : HT gl) : OKA PP (rhoS gl) B 416 ta26:=okA_mk OKO.no OKO.no OKO.no OKO.no (OKO.fn e420) OKO.no OKO.no OKO.no (OKO.fn e424) OKO.no OKO.no OKO.no OKO.no OKO.no OKO.no OKO.no
noncomputable def ta27:FA:=.mk none none none none none none none none none (some x441) (some x442) (some (x443.toBr 400)) (some x444) (some x445) (some x446) (some x447)
theorem oa27 {gl : GlF} (hT : HT gl) : OKA PP (rhoS gl) B 432 ta27:=okA_mk OKO.no OKO.no OKO.no OKO.no OKO.no OKO.no OKO.no OKO.no OKO.no (OKO.fn e441) (OKO.fn e442) (OKO.brX e443 ⟨_, _, _, rfl⟩) (OKO.fn e444) (OKO.fn e445) (OKO.fn e446) (OKO.fn e447)
noncomputable def ta28:FA:=.mk (some x448) none (some (.prim (noFn "function 450"))) none (some (.prim pCountString)) none none none none (some x457) (some x458) (some x459) (some x460) (some x461) (some x462) (some x463)
theorem oa28 {gl : GlF} (hT : HT gl) : OKA PP (rhoS gl) B 448 ta28:=okA_mk (OKO.fn e448) OKO.no (OKO.noP _) OKO.no (OKO.pr (@countString_ok Go.Proofs.Tryz.prog (rhoS gl) B 452 bare452)) OKO.no OKO.no OKO.no OKO.no (OKO.fn e457) (OKO.fn e458) (OKO.fn e459) (OKO.fn e460) (OKO.fn e461) (OKO.fn e462) (OKO.fn e463)
noncomputable def ta29:FA:=.mk (some x464) (some x465) (some x466) (some x467) (some x468) (some x469) none none (some x472) (some x473) none none none none none none
theorem oa29 {gl : GlF} (hT : HT gl) : OKA PP (rhoS gl) B 464 ta29:=okA_mk (OKO.fn e464) (OKO.fn e465) (OKO.fn e466) (OKO.fn e467) (OKO.fn e468) (OKO.fn e469) OKO.no OKO.no (OKO.fn e472) (OKO.fn e473) OKO.no OKO.no OKO.no OKO.no OKO.no OKO.no
noncomputable def ta30:FA:=.mk (some x480) (some x481) (some x482) (some x483) (some x484) (some x485) none (some x487) (some x488) (some (.prim (noFn "function 489"))) (some x490) (some x491) (some x492) (some x493) none (some x495)
theorem oa30 {gl : GlF} (hT : HT gl) : OKA PP (rhoS gl) B 480 ta30:=okA_mk (OKO.fn e480) (OKO.fn e481) (OKO.fn e482) (OKO.fn e483) (OKO.fn e484) (OKO.fn e485) OKO.no (OKO.fn e487) (OKO.fn e488) (OKO.noP _) (OKO.apE (ApEnt.gl e490)) (OKO.fn e491) (OKO.fn e492) (OKO.fn e493) OKO.no (OKO.apE (ApEnt.gl e495))
noncomputable def ta31:FA:=.mk (some x496) (some x497) (some x498) (some x499) (some x500) none none (some x503) (some (.prim (noFn "function 504"))) (some (.prim (noFn "function 505"))) (some (.prim (noFn "function 506"))) (some (.prim (noFn "function 507"))) (some (.prim (noFn "function 508"))) (some x509) (some (.prim (noFn "function 510"))) (some (.prim (noFn "function 511")))
theorem oa31 {gl : GlF} (hT : HT gl) : OKA PP (rhoS gl) B 496 ta31:=okA_mk (OKO.fn e496) (OKO.fn e497) (OKO.fn e498) (OKO.fn e499) (OKO.fn e500) OKO.no OKO.no (OKO.fn e503) (OKO.noP _) (OKO.noP _) (OKO.noP _) (OKO.noP _) (OKO.noP _) (OKO.fn e509) (OKO.noP _) (OKO.noP _)
noncomputable def ta32:FA:=.mk (some x512) (some x513) (some x514) (some (.prim (noFn "function 515"))) (some (.prim (noFn "function 516"))) (some (.prim (noFn "function 517"))) (some (.prim (noFn "function 518"))) (some (.prim (noFn "function 519"))) (some (.prim (noFn "function 520"))) (some (.prim (noFn "function 521"))) (some x522) (some x523) none none none none
theorem oa32 {gl : GlF} (hT : HT gl) : OKA PP (rhoS gl) B 512 ta32:=okA_mk (OKO.fn e512) (OKO.fn e513) (OKO.fn e514) (OKO.noP _) (OKO.noP _) (OKO.noP _) (OKO.noP _) (OKO.noP _) (OKO.noP _) (OKO.noP _) (OKO.fn e522) (OKO.fn e523) OKO.no OKO.no OKO.no OKO.no
noncomputable def tb0:FB:=.mk ta0 ta1 ta2 ta3 ta4 ta5 ta6 ta7 ta8 ta9 ta10 ta11 ta12 ta13 ta14 ta15
theorem ob0 {gl : GlF} (hT : HT gl) : OKB PP (rhoS gl) B 0 tb0:=okB_mk (oa0 hT) (oa1 hT) (oa2 hT) (oa3 hT) (oa4 hT) (oa5 hT) (oa6 hT) (oa7 hT) (oa8 hT) (oa9 hT) (oa10 hT) (oa11 hT) (oa12 hT) (oa13 hT) (oa14 hT) (oa15 hT)
noncomputable def tb1:FB:=.mk ta16 ta17 ta18 ta19 ta20 ta21 ta22 ta23 ta24 ta25 ta26 ta27 ta28 ta29 ta30 ta31
theorem ob1 {gl : GlF} (hT : HT gl) : OKB PP (rhoS gl) B 256 tb1:=okB_mk (oa16 hT) (oa17 hT) (oa18 hT) (oa19 hT) (oa20 hT) (oa21 hT) (oa22 hT) (oa23 hT) (oa24 hT) (oa25 hT) (oa26 hT) (oa27 hT) (oa28 hT) (oa29 hT) (oa30 hT) (oa31 hT)
noncomputable def tb2:FB:=.mk ta32 noA noA noA noA noA noA noA noA noA noA noA noA noA noA noA
theorem ob2 {gl : GlF} (hT : HT gl) : OKB PP (rhoS gl) B 512 tb2:=okB_mk (oa32 hT) okA_no okA_no okA_no okA_no okA_no okA_no okA_no okA_no okA_no okA_no okA_no okA_no okA_no okA_no okA_no
noncomputable def tab : FC := .mk tb0 tb1 tb2 noB noB noB noB noB noB noB noB noB noB noB noB noB
theorem tab_ok {gl : GlF} (hT : HT gl) (B : Nat) : TabOK Go.Proofs.Tryz.prog (rhoS gl) B tab := .mkG (okC_mk (ob0 hT) (ob1 hT) (ob2 hT) okB_no okB_no okB_no okB_no okB_no okB_no okB_no okB_no okB_no okB_no okB_no okB_no) (ha_cons ⟨x88, by kernel_rfl, ApEnt.gl e88⟩ (ha_cons ⟨x292, by kernel_rfl, ApEnt.gl e292⟩ (ha_cons ⟨x490, by kernel_rfl, ApEnt.gl e490⟩ (ha_cons ⟨x495, by kernel_rfl, ApEnt.gl e495⟩ ha_nil))))
end Z
end Go.Ev.YtcfcheeondafcaaGreatDoor
