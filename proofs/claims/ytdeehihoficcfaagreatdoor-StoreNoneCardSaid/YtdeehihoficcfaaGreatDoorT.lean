/- The table of the functions. -/
import Derived.Test.YtdeehihoficcfaaGreatDoorF0
import Derived.Test.YtdeehihoficcfaaGreatDoorF1
import Derived.Test.YtdeehihoficcfaaGreatDoorF2
import Derived.Test.YtdeehihoficcfaaGreatDoorF3
import Derived.Test.YtdeehihoficcfaaGreatDoorF4
import Derived.Test.YtdeehihoficcfaaGreatDoorF5
import Derived.KernelRfl
namespace Go.Ev.YtdeehihoficcfaaGreatDoor
open Go Go.Ev
set_option linter.unusedVariables false
set_option maxRecDepth 100000

theorem bare217 : Bare Go.Proofs.Tryz.prog 217 Extern.MapsClone.clone := ⟨Go.Proofs.Tryz.f217, Go.Proofs.Tryz.func217, by kernel_rfl, by kernel_rfl, by kernel_rfl, by kernel_rfl⟩
theorem bare450 : Bare Go.Proofs.Tryz.prog 450 Extern.BytealgIndexByte.indexByte := ⟨Go.Proofs.Tryz.f450, Go.Proofs.Tryz.func450, by kernel_rfl, by kernel_rfl, by kernel_rfl, by kernel_rfl⟩
theorem bare484 : Bare Go.Proofs.Tryz.prog 484 Extern.BytealgCount.count := ⟨Go.Proofs.Tryz.f484, Go.Proofs.Tryz.func484, by kernel_rfl, by kernel_rfl, by kernel_rfl, by kernel_rfl⟩
noncomputable abbrev rhoS : Env := envAp Go.Proofs.Tryz.prog [305, 396, 468]
theorem oneS : OneSym rhoS := oneAp
variable {B : Nat}
noncomputable def ta0 : FA := .mk none none none (some x3) none none none none none none (some x10) (some x11) (some x12) (some x13) (some x14) (some x15)
theorem oa0 : OKA Go.Proofs.Tryz.prog rhoS B 0 ta0 := okA_mk OKO.no OKO.no OKO.no (OKO.fn e3) OKO.no OKO.no OKO.no OKO.no OKO.no OKO.no (OKO.fn e10) (OKO.fn e11) (OKO.fn e12) (OKO.fn e13) (OKO.fn e14) (OKO.fn e15)
noncomputable def ta1 : FA := .mk (some x16) (some x17) (some x18) (some x19) (some x20) (some x21) (some x22) (some (x23.toBr 400)) (some x24) none none none none none none none
theorem oa1 : OKA Go.Proofs.Tryz.prog rhoS B 16 ta1 := okA_mk (OKO.fn e16) (OKO.fn e17) (OKO.fn e18) (OKO.fn e19) (OKO.fn e20) (OKO.fn e21) (OKO.fn e22) (OKO.brX e23 ⟨_, _, _, rfl⟩) (OKO.fn e24) OKO.no OKO.no OKO.no OKO.no OKO.no OKO.no OKO.no
noncomputable def ta2 : FA := .mk none none none none none none none none none none none none none none none none
theorem oa2 : OKA Go.Proofs.Tryz.prog rhoS B 32 ta2 := okA_mk OKO.no OKO.no OKO.no OKO.no OKO.no OKO.no OKO.no OKO.no OKO.no OKO.no OKO.no OKO.no OKO.no OKO.no OKO.no OKO.no
noncomputable def ta3 : FA := .mk none none none none none none none none none none none none none (some x61) (some x62) none
theorem oa3 : OKA Go.Proofs.Tryz.prog rhoS B 48 ta3 := okA_mk OKO.no OKO.no OKO.no OKO.no OKO.no OKO.no OKO.no OKO.no OKO.no OKO.no OKO.no OKO.no OKO.no (OKO.fn e61) (OKO.fn e62) OKO.no
noncomputable def ta4 : FA := .mk none none (some x66) (some x67) (some x68) (some x69) (some x70) (some x71) (some x72) (some x73) (some x74) (some x75) (some x76) (some x77) (some x78) (some (x79.toBr 400))
theorem oa4 : OKA Go.Proofs.Tryz.prog rhoS B 64 ta4 := okA_mk OKO.no OKO.no (OKO.fn e66) (OKO.fn e67) (OKO.fn e68) (OKO.fn e69) (OKO.fn e70) (OKO.fn e71) (OKO.fn e72) (OKO.fn e73) (OKO.fn e74) (OKO.fn e75) (OKO.fn e76) (OKO.fn e77) (OKO.fn e78) (OKO.brX e79 ⟨_, _, _, rfl⟩)
noncomputable def ta5 : FA := .mk (some x80) (some x81) (some x82) (some x83) (some x84) (some x85) (some x86) none none none (some x90) none none none none none
theorem oa5 : OKA Go.Proofs.Tryz.prog rhoS B 80 ta5 := okA_mk (OKO.fn e80) (OKO.fn e81) (OKO.fn e82) (OKO.fn e83) (OKO.fn e84) (OKO.fn e85) (OKO.fn e86) OKO.no OKO.no OKO.no (OKO.fn e90) OKO.no OKO.no OKO.no OKO.no OKO.no
noncomputable def ta6 : FA := .mk none none none none none none none none none none none none none none none none
theorem oa6 : OKA Go.Proofs.Tryz.prog rhoS B 96 ta6 := okA_mk OKO.no OKO.no OKO.no OKO.no OKO.no OKO.no OKO.no OKO.no OKO.no OKO.no OKO.no OKO.no OKO.no OKO.no OKO.no OKO.no
noncomputable def ta7 : FA := .mk none none none none none none none none none none (some x122) (some x123) (some x124) (some x125) (some x126) (some x127)
theorem oa7 : OKA Go.Proofs.Tryz.prog rhoS B 112 ta7 := okA_mk OKO.no OKO.no OKO.no OKO.no OKO.no OKO.no OKO.no OKO.no OKO.no OKO.no (OKO.fn e122) (OKO.fn e123) (OKO.fn e124) (OKO.fn e125) (OKO.fn e126) (OKO.fn e127)
noncomputable def ta8 : FA := .mk (some x128) (some (.prim pClone)) (some x130) (some (x131.toBr 400)) (some x132) (some x133) none none (some x136) (some x137) (some x138) (some x139) (some x140) (some x141) (some x142) (some x143)
theorem oa8 : OKA Go.Proofs.Tryz.prog rhoS B 128 ta8 := okA_mk (OKO.fn e128) (OKO.pr (clone_ok (g := 217) (by kernel_rfl) bare217)) (OKO.fn e130) (OKO.brX e131 ⟨_, _, _, rfl⟩) (OKO.fn e132) (OKO.fn e133) OKO.no OKO.no (OKO.fn e136) (OKO.fn e137) (OKO.fn e138) (OKO.fn e139) (OKO.fn e140) (OKO.fn e141) (OKO.fn e142) (OKO.fn e143)
noncomputable def ta9 : FA := .mk (some x144) (some x145) (some x146) (some x147) (some x148) (some x149) (some x150) (some x151) (some x152) (some x153) (some x154) (some x155) (some x156) (some x157) (some x158) (some x159)
theorem oa9 : OKA Go.Proofs.Tryz.prog rhoS B 144 ta9 := okA_mk (OKO.fn e144) (OKO.fn e145) (OKO.fn e146) (OKO.fn e147) (OKO.fn e148) (OKO.fn e149) (OKO.fn e150) (OKO.fn e151) (OKO.fn e152) (OKO.fn e153) (OKO.fn e154) (OKO.fn e155) (OKO.fn e156) (OKO.fn e157) (OKO.fn e158) (OKO.fn e159)
noncomputable def ta10 : FA := .mk (some (x160.toBr 400)) (some x161) (some x162) (some x163) (some x164) (some x165) none none (some x168) none none none none none none none
theorem oa10 : OKA Go.Proofs.Tryz.prog rhoS B 160 ta10 := okA_mk (OKO.brX e160 ⟨_, _, _, rfl⟩) (OKO.fn e161) (OKO.fn e162) (OKO.fn e163) (OKO.fn e164) (OKO.fn e165) OKO.no OKO.no (OKO.fn e168) OKO.no OKO.no OKO.no OKO.no OKO.no OKO.no OKO.no
noncomputable def ta11 : FA := .mk none none none none none none none none none none none none none none none none
theorem oa11 : OKA Go.Proofs.Tryz.prog rhoS B 176 ta11 := okA_mk OKO.no OKO.no OKO.no OKO.no OKO.no OKO.no OKO.no OKO.no OKO.no OKO.no OKO.no OKO.no OKO.no OKO.no OKO.no OKO.no
noncomputable def ta12 : FA := .mk none none none none none none none none none (some x201) (some x202) (some x203) (some x204) (some x205) (some x206) (some x207)
theorem oa12 : OKA Go.Proofs.Tryz.prog rhoS B 192 ta12 := okA_mk OKO.no OKO.no OKO.no OKO.no OKO.no OKO.no OKO.no OKO.no OKO.no (OKO.fn e201) (OKO.fn e202) (OKO.fn e203) (OKO.fn e204) (OKO.fn e205) (OKO.fn e206) (OKO.fn e207)
noncomputable def ta13 : FA := .mk (some x208) (some x209) (some x210) (some x211) (some x212) (some x213) (some x214) (some x215) (some x216) none (some x218) (some x219) none (some x221) (some x222) (some x223)
theorem oa13 : OKA Go.Proofs.Tryz.prog rhoS B 208 ta13 := okA_mk (OKO.fn e208) (OKO.fn e209) (OKO.fn e210) (OKO.fn e211) (OKO.fn e212) (OKO.fn e213) (OKO.fn e214) (OKO.fn e215) (OKO.fn e216) OKO.no (OKO.fn e218) (OKO.fn e219) OKO.no (OKO.fn e221) (OKO.fn e222) (OKO.fn e223)
noncomputable def ta14 : FA := .mk (some x224) (some (x225.toBr 400)) (some x226) (some x227) (some x228) (some x229) (some x230) (some x231) (some x232) (some x233) (some x234) (some x235) (some x236) (some x237) (some x238) (some x239)
theorem oa14 : OKA Go.Proofs.Tryz.prog rhoS B 224 ta14 := okA_mk (OKO.fn e224) (OKO.brX e225 ⟨_, _, _, rfl⟩) (OKO.fn e226) (OKO.fn e227) (OKO.fn e228) (OKO.fn e229) (OKO.fn e230) (OKO.fn e231) (OKO.fn e232) (OKO.fn e233) (OKO.fn e234) (OKO.fn e235) (OKO.fn e236) (OKO.fn e237) (OKO.fn e238) (OKO.fn e239)
noncomputable def ta15 : FA := .mk (some x240) (some x241) (some x242) (some x243) (some x244) (some x245) (some x246) (some x247) (some x248) (some x249) (some x250) (some x251) (some x252) (some x253) none none
theorem oa15 : OKA Go.Proofs.Tryz.prog rhoS B 240 ta15 := okA_mk (OKO.fn e240) (OKO.fn e241) (OKO.fn e242) (OKO.fn e243) (OKO.fn e244) (OKO.fn e245) (OKO.fn e246) (OKO.fn e247) (OKO.fn e248) (OKO.fn e249) (OKO.fn e250) (OKO.fn e251) (OKO.fn e252) (OKO.fn e253) OKO.no OKO.no
noncomputable def ta16 : FA := .mk none none none none none none none none none none none none none none none none
theorem oa16 : OKA Go.Proofs.Tryz.prog rhoS B 256 ta16 := okA_mk OKO.no OKO.no OKO.no OKO.no OKO.no OKO.no OKO.no OKO.no OKO.no OKO.no OKO.no OKO.no OKO.no OKO.no OKO.no OKO.no
noncomputable def ta17 : FA := .mk none none none none none none none none none none none none none none none none
theorem oa17 : OKA Go.Proofs.Tryz.prog rhoS B 272 ta17 := okA_mk OKO.no OKO.no OKO.no OKO.no OKO.no OKO.no OKO.no OKO.no OKO.no OKO.no OKO.no OKO.no OKO.no OKO.no OKO.no OKO.no
noncomputable def ta18 : FA := .mk none none none none none (some x293) (some x294) (some x295) (some x296) (some x297) (some x298) (some x299) (some x300) (some x301) (some x302) (some x303)
theorem oa18 : OKA Go.Proofs.Tryz.prog rhoS B 288 ta18 := okA_mk OKO.no OKO.no OKO.no OKO.no OKO.no (OKO.fn e293) (OKO.fn e294) (OKO.fn e295) (OKO.fn e296) (OKO.fn e297) (OKO.fn e298) (OKO.fn e299) (OKO.fn e300) (OKO.fn e301) (OKO.fn e302) (OKO.fn e303)
noncomputable def ta19 : FA := .mk (some x304) (some x305) (some x306) (some x307) (some x308) (some x309) (some x310) (some (x311.toBr 400)) (some x312) (some x313) (some x314) (some x315) (some x316) (some x317) (some x318) (some x319)
theorem oa19 : OKA Go.Proofs.Tryz.prog rhoS B 304 ta19 := okA_mk (OKO.fn e304) (OKO.apE e305) (OKO.fn e306) (OKO.fn e307) (OKO.fn e308) (OKO.fn e309) (OKO.fn e310) (OKO.brX e311 ⟨_, _, _, rfl⟩) (OKO.fn e312) (OKO.fn e313) (OKO.fn e314) (OKO.fn e315) (OKO.fn e316) (OKO.fn e317) (OKO.fn e318) (OKO.fn e319)
noncomputable def ta20 : FA := .mk (some x320) (some (.prim (noFn "function 321"))) (some (.prim (noFn "function 322"))) (some (.prim (noFn "function 323"))) (some (.prim (noFn "function 324"))) (some (.prim (noFn "function 325"))) (some (.prim (noFn "function 326"))) (some (.prim (noFn "function 327"))) (some x328) (some x329) (some x330) (some x331) (some x332) (some x333) (some x334) (some (x335.toBr 400))
theorem oa20 : OKA Go.Proofs.Tryz.prog rhoS B 320 ta20 := okA_mk (OKO.fn e320) (OKO.noP _) (OKO.noP _) (OKO.noP _) (OKO.noP _) (OKO.noP _) (OKO.noP _) (OKO.noP _) (OKO.fn e328) (OKO.fn e329) (OKO.fn e330) (OKO.fn e331) (OKO.fn e332) (OKO.fn e333) (OKO.fn e334) (OKO.brX e335 ⟨_, _, _, rfl⟩)
noncomputable def ta21 : FA := .mk (some x336) (some x337) (some x338) (some x339) (some x340) (some (.prim (noFn "function 341"))) (some (.prim (noFn "function 342"))) (some (.prim (noFn "function 343"))) (some (.prim (noFn "function 344"))) (some (.prim (noFn "function 345"))) (some x346) (some (.prim (noFn "function 347"))) (some (.prim (noFn "function 348"))) (some x349) (some x350) (some (.prim (noFn "function 351")))
theorem oa21 : OKA Go.Proofs.Tryz.prog rhoS B 336 ta21 := okA_mk (OKO.fn e336) (OKO.fn e337) (OKO.fn e338) (OKO.fn e339) (OKO.fn e340) (OKO.noP _) (OKO.noP _) (OKO.noP _) (OKO.noP _) (OKO.noP _) (OKO.fn e346) (OKO.noP _) (OKO.noP _) (OKO.fn e349) (OKO.fn e350) (OKO.noP _)
noncomputable def ta22 : FA := .mk (some x352) none none none none none none none none none none none none none none none
theorem oa22 : OKA Go.Proofs.Tryz.prog rhoS B 352 ta22 := okA_mk (OKO.fn e352) OKO.no OKO.no OKO.no OKO.no OKO.no OKO.no OKO.no OKO.no OKO.no OKO.no OKO.no OKO.no OKO.no OKO.no OKO.no
noncomputable def ta23 : FA := .mk none none none none none none none none none none none none none none none none
theorem oa23 : OKA Go.Proofs.Tryz.prog rhoS B 368 ta23 := okA_mk OKO.no OKO.no OKO.no OKO.no OKO.no OKO.no OKO.no OKO.no OKO.no OKO.no OKO.no OKO.no OKO.no OKO.no OKO.no OKO.no
noncomputable def ta24 : FA := .mk (some x384) (some x385) (some x386) (some (.prim (noFn "function 387"))) (some (.prim (noFn "function 388"))) (some (.prim (noFn "function 389"))) (some (.prim (noFn "function 390"))) (some (.prim (noFn "function 391"))) (some (.prim (noFn "function 392"))) (some (.prim (noFn "function 393"))) (some x394) (some x395) (some x396) (some x397) (some x398) (some x399)
theorem oa24 : OKA Go.Proofs.Tryz.prog rhoS B 384 ta24 := okA_mk (OKO.fn e384) (OKO.fn e385) (OKO.fn e386) (OKO.noP _) (OKO.noP _) (OKO.noP _) (OKO.noP _) (OKO.noP _) (OKO.noP _) (OKO.noP _) (OKO.fn e394) (OKO.fn e395) (OKO.apE e396) (OKO.fn e397) (OKO.fn e398) (OKO.fn e399)
noncomputable def ta25 : FA := .mk (some x400) (some x401) (some x402) (some x403) none none none none none (some x409) (some x410) (some x411) (some x412) none none none
theorem oa25 : OKA Go.Proofs.Tryz.prog rhoS B 400 ta25 := okA_mk (OKO.fn e400) (OKO.fn e401) (OKO.fn e402) (OKO.fn e403) OKO.no OKO.no OKO.no OKO.no OKO.no (OKO.fn e409) (OKO.fn e410) (OKO.fn e411) (OKO.fn e412) OKO.no OKO.no OKO.no
noncomputable def ta26 : FA := .mk (some x416) (some x417) (some x418) (some x419) (some x420) none none none none none none none none none none none
theorem oa26 : OKA Go.Proofs.Tryz.prog rhoS B 416 ta26 := okA_mk (OKO.fn e416) (OKO.fn e417) (OKO.fn e418) (OKO.fn e419) (OKO.fn e420) OKO.no OKO.no OKO.no OKO.no OKO.no OKO.no OKO.no OKO.no OKO.no OKO.no OKO.no
noncomputable def ta27 : FA := .mk none none none none none none none none none none none none none none none none
theorem oa27 : OKA Go.Proofs.Tryz.prog rhoS B 432 ta27 := okA_mk OKO.no OKO.no OKO.no OKO.no OKO.no OKO.no OKO.no OKO.no OKO.no OKO.no OKO.no OKO.no OKO.no OKO.no OKO.no OKO.no
noncomputable def ta28 : FA := .mk none none none none none none none (some x455) (some (.prim (noFn "function 456"))) (some (.prim (noFn "function 457"))) (some (.prim (noFn "function 458"))) (some (.prim (noFn "function 459"))) (some (.prim (noFn "function 460"))) (some x461) (some (.prim (noFn "function 462"))) (some (.prim (noFn "function 463")))
theorem oa28 : OKA Go.Proofs.Tryz.prog rhoS B 448 ta28 := okA_mk OKO.no OKO.no OKO.no OKO.no OKO.no OKO.no OKO.no (OKO.fn e455) (OKO.noP _) (OKO.noP _) (OKO.noP _) (OKO.noP _) (OKO.noP _) (OKO.fn e461) (OKO.noP _) (OKO.noP _)
noncomputable def ta29 : FA := .mk (some x464) none (some x466) (some x467) (some x468) (some x469) none (some x471) (some x472) none none none none none none none
theorem oa29 : OKA Go.Proofs.Tryz.prog rhoS B 464 ta29 := okA_mk (OKO.fn e464) OKO.no (OKO.fn e466) (OKO.fn e467) (OKO.apE e468) (OKO.fn e469) OKO.no (OKO.fn e471) (OKO.fn e472) OKO.no OKO.no OKO.no OKO.no OKO.no OKO.no OKO.no
noncomputable def ta30 : FA := .mk none none none none none none none none none none none none none none (some x494) (some x495)
theorem oa30 : OKA Go.Proofs.Tryz.prog rhoS B 480 ta30 := okA_mk OKO.no OKO.no OKO.no OKO.no OKO.no OKO.no OKO.no OKO.no OKO.no OKO.no OKO.no OKO.no OKO.no OKO.no (OKO.fn e494) (OKO.fn e495)
noncomputable def ta31 : FA := .mk (some (.prim (noFn "function 496"))) (some (.prim (noFn "function 497"))) (some (.prim (noFn "function 498"))) (some (.prim (noFn "function 499"))) (some (.prim (noFn "function 500"))) (some (.prim (noFn "function 501"))) (some (.prim (noFn "function 502"))) none none none none none none none none none
theorem oa31 : OKA Go.Proofs.Tryz.prog rhoS B 496 ta31 := okA_mk (OKO.noP _) (OKO.noP _) (OKO.noP _) (OKO.noP _) (OKO.noP _) (OKO.noP _) (OKO.noP _) OKO.no OKO.no OKO.no OKO.no OKO.no OKO.no OKO.no OKO.no OKO.no
noncomputable def tb0 : FB := .mk ta0 ta1 ta2 ta3 ta4 ta5 ta6 ta7 ta8 ta9 ta10 ta11 ta12 ta13 ta14 ta15
theorem ob0 : OKB Go.Proofs.Tryz.prog rhoS B 0 tb0 := okB_mk oa0 oa1 oa2 oa3 oa4 oa5 oa6 oa7 oa8 oa9 oa10 oa11 oa12 oa13 oa14 oa15
noncomputable def tb1 : FB := .mk ta16 ta17 ta18 ta19 ta20 ta21 ta22 ta23 ta24 ta25 ta26 ta27 ta28 ta29 ta30 ta31
theorem ob1 : OKB Go.Proofs.Tryz.prog rhoS B 256 tb1 := okB_mk oa16 oa17 oa18 oa19 oa20 oa21 oa22 oa23 oa24 oa25 oa26 oa27 oa28 oa29 oa30 oa31
noncomputable def tab : FC := .mk tb0 tb1 noB noB noB noB noB noB noB noB noB noB noB noB noB noB
theorem tab_ok (B : Nat) : TabOK Go.Proofs.Tryz.prog rhoS B tab := .mk (okC_mk ob0 ob1 okB_no okB_no okB_no okB_no okB_no okB_no okB_no okB_no okB_no okB_no okB_no okB_no okB_no) (ha_cons ⟨x305, by kernel_rfl, e305⟩ (ha_cons ⟨x396, by kernel_rfl, e396⟩ (ha_cons ⟨x468, by kernel_rfl, e468⟩ ha_nil)))
end Go.Ev.YtdeehihoficcfaaGreatDoor
