/- The table of the functions. -/
import Derived.Test.YtdeehihoficcfaaGreatDoorF0
import Derived.Test.YtdeehihoficcfaaGreatDoorF1
import Derived.Test.YtdeehihoficcfaaGreatDoorF2
import Derived.Test.YtdeehihoficcfaaGreatDoorF3
import Derived.Test.YtdeehihoficcfaaGreatDoorF4
import Derived.Test.YtdeehihoficcfaaGreatDoorEv4
import Derived.KernelRfl
namespace Go.Ev.YtdeehihoficcfaaGreatDoor
open Go Go.Ev
set_option linter.unusedVariables false
set_option maxRecDepth 100000

theorem bare217 : Bare Go.Proofs.Tryz.prog 217 Extern.MapsClone.clone := ⟨Go.Proofs.Tryz.f217, Go.Proofs.Tryz.func217, by kernel_rfl, by kernel_rfl, by kernel_rfl, by kernel_rfl⟩
theorem bare450 : Bare Go.Proofs.Tryz.prog 450 Extern.BytealgIndexByte.indexByte := ⟨Go.Proofs.Tryz.f450, Go.Proofs.Tryz.func450, by kernel_rfl, by kernel_rfl, by kernel_rfl, by kernel_rfl⟩
theorem bare484 : Bare Go.Proofs.Tryz.prog 484 Extern.BytealgCount.count := ⟨Go.Proofs.Tryz.f484, Go.Proofs.Tryz.func484, by kernel_rfl, by kernel_rfl, by kernel_rfl, by kernel_rfl⟩
def nren : Shelf.Ren := { f := fun x => match x with | 129 => 329 | 284 => 350 | 317 => 417 | 318 => 418 | _ => 0, t := fun x => match x with | 0 => 0 | 3 => 3 | 4 => 4 | 5 => 5 | 9 => 9 | 46 => 360 | 53 => 97 | 212 => 532 | _ => 0, g := fun _ => 0 }
theorem nlay : Go.Proofs.LaysM.n284 Go.Proofs.Tryz.prog nren where
  mixed := by kernel_rfl
  f129 := Go.Proofs.Tryz.func329.trans (by kernel_rfl)
  f284 := Go.Proofs.Tryz.func350.trans (by kernel_rfl)
  f317 := Go.Proofs.Tryz.func417.trans (by kernel_rfl)
  f318 := Go.Proofs.Tryz.func418.trans (by kernel_rfl)
  t0 := Go.Proofs.Tryz.underlying0
  a0 := Go.Proofs.Tryz.isAgg0
  z0 := Go.Proofs.Tryz.sizeOf0
  v0 := Go.Proofs.Tryz.zeroValue0
  i0 := by kernel_rfl
  t3 := Go.Proofs.Tryz.underlying3
  a3 := Go.Proofs.Tryz.isAgg3
  z3 := Go.Proofs.Tryz.sizeOf3
  v3 := Go.Proofs.Tryz.zeroValue3
  i3 := by kernel_rfl
  t4 := Go.Proofs.Tryz.underlying4
  a4 := Go.Proofs.Tryz.isAgg4
  z4 := Go.Proofs.Tryz.sizeOf4
  v4 := Go.Proofs.Tryz.zeroValue4
  i4 := by kernel_rfl
  t5 := Go.Proofs.Tryz.underlying5
  a5 := Go.Proofs.Tryz.isAgg5
  z5 := Go.Proofs.Tryz.sizeOf5
  v5 := Go.Proofs.Tryz.zeroValue5
  i5 := by kernel_rfl
  t9 := Go.Proofs.Tryz.underlying9
  a9 := Go.Proofs.Tryz.isAgg9
  z9 := Go.Proofs.Tryz.sizeOf9
  v9 := Go.Proofs.Tryz.zeroValue9
  i9 := by kernel_rfl
  t46 := Go.Proofs.Tryz.underlying360
  a46 := Go.Proofs.Tryz.isAgg360
  z46 := Go.Proofs.Tryz.sizeOf360
  v46 := Go.Proofs.Tryz.zeroValue360
  i46 := by kernel_rfl
  t53 := Go.Proofs.Tryz.underlying97
  a53 := Go.Proofs.Tryz.isAgg97
  z53 := Go.Proofs.Tryz.sizeOf97
  v53 := Go.Proofs.Tryz.zeroValue97
  i53 := by kernel_rfl
  t212 := Go.Proofs.Tryz.underlying532
  a212 := Go.Proofs.Tryz.isAgg532
  z212 := Go.Proofs.Tryz.sizeOf532
  v212 := Go.Proofs.Tryz.zeroValue532
  i212 := by kernel_rfl
  g17 := by kernel_rfl
  m17 := by kernel_rfl
theorem digits350 : DigitsFn Go.Proofs.Tryz.prog 350 := fun u h1 h2 w ht => Go.Proofs.Any.internal_strconv_numDigits nlay u h1 h2 w ht
noncomputable abbrev rhoS (gl : GlF) : Env := envGl Go.Proofs.Tryz.prog [374] gl
theorem oneS {gl : GlF} : OneSym (rhoS gl) := oneGl
variable {B : Nat}
namespace Z
noncomputable def ta0 : FA := .mk none none none none none none none (some x7) none none none none none none none none
theorem oa0 {gl : GlF} (hT : TabG Go.Proofs.Tryz.prog gl "internal/strconv.uint64pow10" .u64 Lib.pow10Tab) : OKA Go.Proofs.Tryz.prog (rhoS gl) B 0 ta0 := okA_mk OKO.no OKO.no OKO.no OKO.no OKO.no OKO.no OKO.no (OKO.fn e7) OKO.no OKO.no OKO.no OKO.no OKO.no OKO.no OKO.no OKO.no
noncomputable def ta1 : FA := .mk none none none none none none none none none none none none none none none none
theorem oa1 {gl : GlF} (hT : TabG Go.Proofs.Tryz.prog gl "internal/strconv.uint64pow10" .u64 Lib.pow10Tab) : OKA Go.Proofs.Tryz.prog (rhoS gl) B 16 ta1 := okA_mk OKO.no OKO.no OKO.no OKO.no OKO.no OKO.no OKO.no OKO.no OKO.no OKO.no OKO.no OKO.no OKO.no OKO.no OKO.no OKO.no
noncomputable def ta2 : FA := .mk none none none none none none none none none none none none none none none none
theorem oa2 {gl : GlF} (hT : TabG Go.Proofs.Tryz.prog gl "internal/strconv.uint64pow10" .u64 Lib.pow10Tab) : OKA Go.Proofs.Tryz.prog (rhoS gl) B 32 ta2 := okA_mk OKO.no OKO.no OKO.no OKO.no OKO.no OKO.no OKO.no OKO.no OKO.no OKO.no OKO.no OKO.no OKO.no OKO.no OKO.no OKO.no
noncomputable def ta3 : FA := .mk none none none (some x51) (some x52) none (some x54) (some x55) (some x56) (some x57) (some x58) (some x59) (some x60) none none none
theorem oa3 {gl : GlF} (hT : TabG Go.Proofs.Tryz.prog gl "internal/strconv.uint64pow10" .u64 Lib.pow10Tab) : OKA Go.Proofs.Tryz.prog (rhoS gl) B 48 ta3 := okA_mk OKO.no OKO.no OKO.no (OKO.fn e51) (OKO.fn e52) OKO.no (OKO.fn e54) (OKO.fn e55) (OKO.fn e56) (OKO.fn e57) (OKO.fn e58) (OKO.fn e59) (OKO.fn e60) OKO.no OKO.no OKO.no
noncomputable def ta4 : FA := .mk none none none none none none none none none none none none none none none none
theorem oa4 {gl : GlF} (hT : TabG Go.Proofs.Tryz.prog gl "internal/strconv.uint64pow10" .u64 Lib.pow10Tab) : OKA Go.Proofs.Tryz.prog (rhoS gl) B 64 ta4 := okA_mk OKO.no OKO.no OKO.no OKO.no OKO.no OKO.no OKO.no OKO.no OKO.no OKO.no OKO.no OKO.no OKO.no OKO.no OKO.no OKO.no
noncomputable def ta5 : FA := .mk none none none none none none none none none (some x89) none none none none none none
theorem oa5 {gl : GlF} (hT : TabG Go.Proofs.Tryz.prog gl "internal/strconv.uint64pow10" .u64 Lib.pow10Tab) : OKA Go.Proofs.Tryz.prog (rhoS gl) B 80 ta5 := okA_mk OKO.no OKO.no OKO.no OKO.no OKO.no OKO.no OKO.no OKO.no OKO.no (OKO.fn e89) OKO.no OKO.no OKO.no OKO.no OKO.no OKO.no
noncomputable def ta6 : FA := .mk none none none (some x99) none none none none none none (some x106) (some x107) (some x108) (some x109) (some x110) (some x111)
theorem oa6 {gl : GlF} (hT : TabG Go.Proofs.Tryz.prog gl "internal/strconv.uint64pow10" .u64 Lib.pow10Tab) : OKA Go.Proofs.Tryz.prog (rhoS gl) B 96 ta6 := okA_mk OKO.no OKO.no OKO.no (OKO.fn e99) OKO.no OKO.no OKO.no OKO.no OKO.no OKO.no (OKO.fn e106) (OKO.fn e107) (OKO.fn e108) (OKO.fn e109) (OKO.fn e110) (OKO.fn e111)
noncomputable def ta7 : FA := .mk (some x112) (some x113) (some x114) (some x115) (some x116) (some x117) (some x118) (some x119) (some x120) (some x121) none none none none none none
theorem oa7 {gl : GlF} (hT : TabG Go.Proofs.Tryz.prog gl "internal/strconv.uint64pow10" .u64 Lib.pow10Tab) : OKA Go.Proofs.Tryz.prog (rhoS gl) B 112 ta7 := okA_mk (OKO.fn e112) (OKO.fn e113) (OKO.fn e114) (OKO.fn e115) (OKO.fn e116) (OKO.fn e117) (OKO.fn e118) (OKO.fn e119) (OKO.fn e120) (OKO.fn e121) OKO.no OKO.no OKO.no OKO.no OKO.no OKO.no
noncomputable def ta8 : FA := .mk none none none none none none none none none none none none none none none none
theorem oa8 {gl : GlF} (hT : TabG Go.Proofs.Tryz.prog gl "internal/strconv.uint64pow10" .u64 Lib.pow10Tab) : OKA Go.Proofs.Tryz.prog (rhoS gl) B 128 ta8 := okA_mk OKO.no OKO.no OKO.no OKO.no OKO.no OKO.no OKO.no OKO.no OKO.no OKO.no OKO.no OKO.no OKO.no OKO.no OKO.no OKO.no
noncomputable def ta9 : FA := .mk none none none none none none none none none none none none none none none none
theorem oa9 {gl : GlF} (hT : TabG Go.Proofs.Tryz.prog gl "internal/strconv.uint64pow10" .u64 Lib.pow10Tab) : OKA Go.Proofs.Tryz.prog (rhoS gl) B 144 ta9 := okA_mk OKO.no OKO.no OKO.no OKO.no OKO.no OKO.no OKO.no OKO.no OKO.no OKO.no OKO.no OKO.no OKO.no OKO.no OKO.no OKO.no
noncomputable def ta10 : FA := .mk none none none none (some x164) (some x165) none (some x167) none none none none none (some x173) none none
theorem oa10 {gl : GlF} (hT : TabG Go.Proofs.Tryz.prog gl "internal/strconv.uint64pow10" .u64 Lib.pow10Tab) : OKA Go.Proofs.Tryz.prog (rhoS gl) B 160 ta10 := okA_mk OKO.no OKO.no OKO.no OKO.no (OKO.fn e164) (OKO.fn e165) OKO.no (OKO.fn e167) OKO.no OKO.no OKO.no OKO.no OKO.no (OKO.fn e173) OKO.no OKO.no
noncomputable def ta11 : FA := .mk none none none none (some x180) none none none none none none (some x187) (some (x188.toBr 400)) (some x189) (some x190) (some x191)
theorem oa11 {gl : GlF} (hT : TabG Go.Proofs.Tryz.prog gl "internal/strconv.uint64pow10" .u64 Lib.pow10Tab) : OKA Go.Proofs.Tryz.prog (rhoS gl) B 176 ta11 := okA_mk OKO.no OKO.no OKO.no OKO.no (OKO.fn e180) OKO.no OKO.no OKO.no OKO.no OKO.no OKO.no (OKO.fn e187) (OKO.brX e188 ⟨_, _, _, rfl⟩) (OKO.fn e189) (OKO.fn e190) (OKO.fn e191)
noncomputable def ta12 : FA := .mk (some x192) (some x193) (some x194) (some x195) (some x196) (some x197) (some x198) (some x199) (some x200) none none none none none none none
theorem oa12 {gl : GlF} (hT : TabG Go.Proofs.Tryz.prog gl "internal/strconv.uint64pow10" .u64 Lib.pow10Tab) : OKA Go.Proofs.Tryz.prog (rhoS gl) B 192 ta12 := okA_mk (OKO.fn e192) (OKO.fn e193) (OKO.fn e194) (OKO.fn e195) (OKO.fn e196) (OKO.fn e197) (OKO.fn e198) (OKO.fn e199) (OKO.fn e200) OKO.no OKO.no OKO.no OKO.no OKO.no OKO.no OKO.no
noncomputable def ta13 : FA := .mk none none none none none none none none none none none none none none none none
theorem oa13 {gl : GlF} (hT : TabG Go.Proofs.Tryz.prog gl "internal/strconv.uint64pow10" .u64 Lib.pow10Tab) : OKA Go.Proofs.Tryz.prog (rhoS gl) B 208 ta13 := okA_mk OKO.no OKO.no OKO.no OKO.no OKO.no OKO.no OKO.no OKO.no OKO.no OKO.no OKO.no OKO.no OKO.no OKO.no OKO.no OKO.no
noncomputable def ta14 : FA := .mk none none none none none none none none none none none none none (some x237) (some x238) none
theorem oa14 {gl : GlF} (hT : TabG Go.Proofs.Tryz.prog gl "internal/strconv.uint64pow10" .u64 Lib.pow10Tab) : OKA Go.Proofs.Tryz.prog (rhoS gl) B 224 ta14 := okA_mk OKO.no OKO.no OKO.no OKO.no OKO.no OKO.no OKO.no OKO.no OKO.no OKO.no OKO.no OKO.no OKO.no (OKO.fn e237) (OKO.fn e238) OKO.no
noncomputable def ta15 : FA := .mk none none none none none none none none none none none none (some x252) (some x253) (some x254) (some x255)
theorem oa15 {gl : GlF} (hT : TabG Go.Proofs.Tryz.prog gl "internal/strconv.uint64pow10" .u64 Lib.pow10Tab) : OKA Go.Proofs.Tryz.prog (rhoS gl) B 240 ta15 := okA_mk OKO.no OKO.no OKO.no OKO.no OKO.no OKO.no OKO.no OKO.no OKO.no OKO.no OKO.no OKO.no (OKO.fn e252) (OKO.fn e253) (OKO.fn e254) (OKO.fn e255)
noncomputable def ta16 : FA := .mk none none none none (some x260) none none none none none (some x266) (some x267) none none none none
theorem oa16 {gl : GlF} (hT : TabG Go.Proofs.Tryz.prog gl "internal/strconv.uint64pow10" .u64 Lib.pow10Tab) : OKA Go.Proofs.Tryz.prog (rhoS gl) B 256 ta16 := okA_mk OKO.no OKO.no OKO.no OKO.no (OKO.fn e260) OKO.no OKO.no OKO.no OKO.no OKO.no (OKO.fn e266) (OKO.fn e267) OKO.no OKO.no OKO.no OKO.no
noncomputable def ta17 : FA := .mk none (some x273) (some x274) (some x275) (some x276) (some x277) (some x278) (some x279) (some x280) (some x281) (some x282) (some x283) (some x284) (some x285) (some x286) (some x287)
theorem oa17 {gl : GlF} (hT : TabG Go.Proofs.Tryz.prog gl "internal/strconv.uint64pow10" .u64 Lib.pow10Tab) : OKA Go.Proofs.Tryz.prog (rhoS gl) B 272 ta17 := okA_mk OKO.no (OKO.fn e273) (OKO.fn e274) (OKO.fn e275) (OKO.fn e276) (OKO.fn e277) (OKO.fn e278) (OKO.fn e279) (OKO.fn e280) (OKO.fn e281) (OKO.fn e282) (OKO.fn e283) (OKO.fn e284) (OKO.fn e285) (OKO.fn e286) (OKO.fn e287)
noncomputable def ta18 : FA := .mk (some x288) (some x289) (some x290) (some x291) (some x292) none none none none none none none none none none none
theorem oa18 {gl : GlF} (hT : TabG Go.Proofs.Tryz.prog gl "internal/strconv.uint64pow10" .u64 Lib.pow10Tab) : OKA Go.Proofs.Tryz.prog (rhoS gl) B 288 ta18 := okA_mk (OKO.fn e288) (OKO.fn e289) (OKO.fn e290) (OKO.fn e291) (OKO.fn e292) OKO.no OKO.no OKO.no OKO.no OKO.no OKO.no OKO.no OKO.no OKO.no OKO.no OKO.no
noncomputable def ta19 : FA := .mk none none none none none none none none none none none none none none none none
theorem oa19 {gl : GlF} (hT : TabG Go.Proofs.Tryz.prog gl "internal/strconv.uint64pow10" .u64 Lib.pow10Tab) : OKA Go.Proofs.Tryz.prog (rhoS gl) B 304 ta19 := okA_mk OKO.no OKO.no OKO.no OKO.no OKO.no OKO.no OKO.no OKO.no OKO.no OKO.no OKO.no OKO.no OKO.no OKO.no OKO.no OKO.no
noncomputable def ta20 : FA := .mk none none none none none none none none (some x328) (some x329) none none none none none none
theorem oa20 {gl : GlF} (hT : TabG Go.Proofs.Tryz.prog gl "internal/strconv.uint64pow10" .u64 Lib.pow10Tab) : OKA Go.Proofs.Tryz.prog (rhoS gl) B 320 ta20 := okA_mk OKO.no OKO.no OKO.no OKO.no OKO.no OKO.no OKO.no OKO.no (OKO.fn e328) (OKO.fn e329) OKO.no OKO.no OKO.no OKO.no OKO.no OKO.no
noncomputable def ta21 : FA := .mk none none none none none none none none none none none none none (some x349) (some (.prim pDigits)) (some x351)
theorem oa21 {gl : GlF} (hT : TabG Go.Proofs.Tryz.prog gl "internal/strconv.uint64pow10" .u64 Lib.pow10Tab) : OKA Go.Proofs.Tryz.prog (rhoS gl) B 336 ta21 := okA_mk OKO.no OKO.no OKO.no OKO.no OKO.no OKO.no OKO.no OKO.no OKO.no OKO.no OKO.no OKO.no OKO.no (OKO.fn e349) (OKO.pr (@digits_ok Go.Proofs.Tryz.prog (rhoS gl) B 350 Go.Proofs.Tryz.f350 gl Go.Proofs.Tryz.func350 (by kernel_rfl) (by kernel_rfl) digits350 rfl hT)) (OKO.fn e351)
noncomputable def ta22 : FA := .mk (some x352) (some x353) (some x354) none (some x356) none (some x358) (some x359) none none none none none none none none
theorem oa22 {gl : GlF} (hT : TabG Go.Proofs.Tryz.prog gl "internal/strconv.uint64pow10" .u64 Lib.pow10Tab) : OKA Go.Proofs.Tryz.prog (rhoS gl) B 352 ta22 := okA_mk (OKO.fn e352) (OKO.fn e353) (OKO.fn e354) OKO.no (OKO.fn e356) OKO.no (OKO.fn e358) (OKO.fn e359) OKO.no OKO.no OKO.no OKO.no OKO.no OKO.no OKO.no OKO.no
noncomputable def ta23 : FA := .mk none none none (some x371) (some x372) (some x373) (some x374) (some x375) (some x376) (some x377) (some x378) (some x379) (some x380) (some x381) (some x382) (some x383)
theorem oa23 {gl : GlF} (hT : TabG Go.Proofs.Tryz.prog gl "internal/strconv.uint64pow10" .u64 Lib.pow10Tab) : OKA Go.Proofs.Tryz.prog (rhoS gl) B 368 ta23 := okA_mk OKO.no OKO.no OKO.no (OKO.fn e371) (OKO.fn e372) (OKO.fn e373) (OKO.apE (ApEnt.gl e374)) (OKO.fn e375) (OKO.fn e376) (OKO.fn e377) (OKO.fn e378) (OKO.fn e379) (OKO.fn e380) (OKO.fn e381) (OKO.fn e382) (OKO.fn e383)
noncomputable def ta24 : FA := .mk none none none none none none none none none none none none none none none none
theorem oa24 {gl : GlF} (hT : TabG Go.Proofs.Tryz.prog gl "internal/strconv.uint64pow10" .u64 Lib.pow10Tab) : OKA Go.Proofs.Tryz.prog (rhoS gl) B 384 ta24 := okA_mk OKO.no OKO.no OKO.no OKO.no OKO.no OKO.no OKO.no OKO.no OKO.no OKO.no OKO.no OKO.no OKO.no OKO.no OKO.no OKO.no
noncomputable def ta25 : FA := .mk none none none none none none none none none none none none none none none none
theorem oa25 {gl : GlF} (hT : TabG Go.Proofs.Tryz.prog gl "internal/strconv.uint64pow10" .u64 Lib.pow10Tab) : OKA Go.Proofs.Tryz.prog (rhoS gl) B 400 ta25 := okA_mk OKO.no OKO.no OKO.no OKO.no OKO.no OKO.no OKO.no OKO.no OKO.no OKO.no OKO.no OKO.no OKO.no OKO.no OKO.no OKO.no
noncomputable def ta26 : FA := .mk none none none (some x419) (some x420) (some x421) (some x422) (some x423) none none none none (some x428) (some x429) (some x430) (some x431)
theorem oa26 {gl : GlF} (hT : TabG Go.Proofs.Tryz.prog gl "internal/strconv.uint64pow10" .u64 Lib.pow10Tab) : OKA Go.Proofs.Tryz.prog (rhoS gl) B 416 ta26 := okA_mk OKO.no OKO.no OKO.no (OKO.fn e419) (OKO.fn e420) (OKO.fn e421) (OKO.fn e422) (OKO.fn e423) OKO.no OKO.no OKO.no OKO.no (OKO.fn e428) (OKO.fn e429) (OKO.fn e430) (OKO.fn e431)
noncomputable def ta27 : FA := .mk (some x432) (some (.prim (noFn "function 433"))) (some (.prim (noFn "function 434"))) (some (.prim (noFn "function 435"))) (some (.prim (noFn "function 436"))) (some (.prim (noFn "function 437"))) (some x438) (some (.prim (noFn "function 439"))) (some (.prim (noFn "function 440"))) (some (.prim (noFn "function 441"))) (some x442) (some x443) (some x444) (some x445) (some x446) (some x447)
theorem oa27 {gl : GlF} (hT : TabG Go.Proofs.Tryz.prog gl "internal/strconv.uint64pow10" .u64 Lib.pow10Tab) : OKA Go.Proofs.Tryz.prog (rhoS gl) B 432 ta27 := okA_mk (OKO.fn e432) (OKO.noP _) (OKO.noP _) (OKO.noP _) (OKO.noP _) (OKO.noP _) (OKO.fn e438) (OKO.noP _) (OKO.noP _) (OKO.noP _) (OKO.fn e442) (OKO.fn e443) (OKO.fn e444) (OKO.fn e445) (OKO.fn e446) (OKO.fn e447)
noncomputable def ta28 : FA := .mk (some x448) (some x449) (some (.prim pIndexByteString)) (some x451) none none none none none none none none none none none none
theorem oa28 {gl : GlF} (hT : TabG Go.Proofs.Tryz.prog gl "internal/strconv.uint64pow10" .u64 Lib.pow10Tab) : OKA Go.Proofs.Tryz.prog (rhoS gl) B 448 ta28 := okA_mk (OKO.fn e448) (OKO.fn e449) (OKO.pr (@indexByteString_ok Go.Proofs.Tryz.prog (rhoS gl) B 450 bare450)) (OKO.fn e451) OKO.no OKO.no OKO.no OKO.no OKO.no OKO.no OKO.no OKO.no OKO.no OKO.no OKO.no OKO.no
noncomputable def ta29 : FA := .mk none none none none none none none (some x471) (some x472) (some x473) (some x474) (some x475) none (some x477) none none
theorem oa29 {gl : GlF} (hT : TabG Go.Proofs.Tryz.prog gl "internal/strconv.uint64pow10" .u64 Lib.pow10Tab) : OKA Go.Proofs.Tryz.prog (rhoS gl) B 464 ta29 := okA_mk OKO.no OKO.no OKO.no OKO.no OKO.no OKO.no OKO.no (OKO.fn e471) (OKO.fn e472) (OKO.fn e473) (OKO.fn e474) (OKO.fn e475) OKO.no (OKO.fn e477) OKO.no OKO.no
noncomputable def ta30 : FA := .mk none (some x481) (some x482) (some x483) (some (.prim pCountString)) (some (.prim (noFn "function 485"))) (some (.prim (noFn "function 486"))) (some x487) (some x488) (some x489) none none none none none none
theorem oa30 {gl : GlF} (hT : TabG Go.Proofs.Tryz.prog gl "internal/strconv.uint64pow10" .u64 Lib.pow10Tab) : OKA Go.Proofs.Tryz.prog (rhoS gl) B 480 ta30 := okA_mk OKO.no (OKO.fn e481) (OKO.fn e482) (OKO.fn e483) (OKO.pr (@countString_ok Go.Proofs.Tryz.prog (rhoS gl) B 484 bare484)) (OKO.noP _) (OKO.noP _) (OKO.fn e487) (OKO.fn e488) (OKO.fn e489) OKO.no OKO.no OKO.no OKO.no OKO.no OKO.no
noncomputable def ta31 : FA := .mk none none none none none none none (some x503) (some x504) none (some x506) none none none none (some x511)
theorem oa31 {gl : GlF} (hT : TabG Go.Proofs.Tryz.prog gl "internal/strconv.uint64pow10" .u64 Lib.pow10Tab) : OKA Go.Proofs.Tryz.prog (rhoS gl) B 496 ta31 := okA_mk OKO.no OKO.no OKO.no OKO.no OKO.no OKO.no OKO.no (OKO.fn e503) (OKO.fn e504) OKO.no (OKO.fn e506) OKO.no OKO.no OKO.no OKO.no (OKO.fn e511)
noncomputable def tb0 : FB := .mk ta0 ta1 ta2 ta3 ta4 ta5 ta6 ta7 ta8 ta9 ta10 ta11 ta12 ta13 ta14 ta15
theorem ob0 {gl : GlF} (hT : TabG Go.Proofs.Tryz.prog gl "internal/strconv.uint64pow10" .u64 Lib.pow10Tab) : OKB Go.Proofs.Tryz.prog (rhoS gl) B 0 tb0 := okB_mk (oa0 hT) (oa1 hT) (oa2 hT) (oa3 hT) (oa4 hT) (oa5 hT) (oa6 hT) (oa7 hT) (oa8 hT) (oa9 hT) (oa10 hT) (oa11 hT) (oa12 hT) (oa13 hT) (oa14 hT) (oa15 hT)
noncomputable def tb1 : FB := .mk ta16 ta17 ta18 ta19 ta20 ta21 ta22 ta23 ta24 ta25 ta26 ta27 ta28 ta29 ta30 ta31
theorem ob1 {gl : GlF} (hT : TabG Go.Proofs.Tryz.prog gl "internal/strconv.uint64pow10" .u64 Lib.pow10Tab) : OKB Go.Proofs.Tryz.prog (rhoS gl) B 256 tb1 := okB_mk (oa16 hT) (oa17 hT) (oa18 hT) (oa19 hT) (oa20 hT) (oa21 hT) (oa22 hT) (oa23 hT) (oa24 hT) (oa25 hT) (oa26 hT) (oa27 hT) (oa28 hT) (oa29 hT) (oa30 hT) (oa31 hT)
noncomputable def tab : FC := .mk tb0 tb1 noB noB noB noB noB noB noB noB noB noB noB noB noB noB
theorem tab_ok {gl : GlF} (hT : TabG Go.Proofs.Tryz.prog gl "internal/strconv.uint64pow10" .u64 Lib.pow10Tab) (B : Nat) : TabOK Go.Proofs.Tryz.prog (rhoS gl) B tab := .mkG (okC_mk (ob0 hT) (ob1 hT) okB_no okB_no okB_no okB_no okB_no okB_no okB_no okB_no okB_no okB_no okB_no okB_no okB_no) (ha_cons ⟨x374, by kernel_rfl, ApEnt.gl e374⟩ ha_nil)
end Z
end Go.Ev.YtdeehihoficcfaaGreatDoor
