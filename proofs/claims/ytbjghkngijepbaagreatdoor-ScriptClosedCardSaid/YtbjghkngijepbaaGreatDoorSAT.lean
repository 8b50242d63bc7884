/- The table of the functions, once more: some are told. -/
import Derived.Test.YtbjghkngijepbaaGreatDoorSAZ
import Derived.KernelRfl
namespace Go.Ev.YtbjghkngijepbaaGreatDoor
open Go Go.Ev
set_option linter.unusedVariables false
set_option maxRecDepth 100000

theorem mixedS:Go.Proofs.Tryz.prog.follows .mixedOrders=true := by kernel_rfl
noncomputable def memo16:Rr := [([], .bool true)]
theorem memo16_ok:KI Z.tab 100 16 memo16 := (Ru (by kernel_rfl) Tk)
variable {B:Nat}
noncomputable def ta0:FA := .mk none none none none (some x4) (some x5) none none (some x8) none (some x10) (some x11) (some x12) none (some x14) (some (.prim (Ax "")))
theorem oa0 {gl:BX} (hT:HT gl):C0 PP (rhoS gl) B 0 ta0 := AJ Ab.no Ab.no Ab.no Ab.no (Ab.fn e4) (Ab.fn e5) Ab.no Ab.no (Ab.fn e8) Ab.no (Ab.fn e10) (Ab.fn e11) (Ab.fn e12) Ab.no (Ab.fn e14) (Ab.noP _)
noncomputable def ta1:FA := .mk (some (.prim (LJ memo16))) (some x17) (some x18) (some x19) (some x20) (some x21) (some x22) (some x23) (some x24) none none (some x27) none (some x29) (some x30) (some x31)
theorem oa1 {gl:BX} (hT:HT gl):C0 PP (rhoS gl) B 16 ta1 := AJ (Ab.pr (Ux oneS mixedS (fun B => Z.tab_ok hT B) memo16_ok)) (Ab.fn e17) (Ab.fn e18) (Ab.fn e19) (Ab.fn e20) (Ab.fn e21) (Ab.fn e22) (Ab.fn e23) (Ab.fn e24) Ab.no Ab.no (Ab.fn e27) Ab.no (Ab.fn e29) (Ab.fn e30) (Ab.fn e31)
noncomputable def ta2:FA := .mk (some (.prim (Ax ""))) (some (.prim (Ax ""))) (some x34) (some (.prim (Ax ""))) (some x36) (some (.prim (Ax ""))) (some x38) (some x39) (some x40) (some x41) (some x42) (some x43) (some x44) (some x45) (some x46) (some x47)
theorem oa2 {gl:BX} (hT:HT gl):C0 PP (rhoS gl) B 32 ta2 := AJ (Ab.noP _) (Ab.noP _) (Ab.fn e34) (Ab.noP _) (Ab.fn e36) (Ab.noP _) (Ab.fn e38) (Ab.fn e39) (Ab.fn e40) (Ab.fn e41) (Ab.fn e42) (Ab.fn e43) (Ab.fn e44) (Ab.fn e45) (Ab.fn e46) (Ab.fn e47)
noncomputable def ta3:FA := .mk (some x48) (some x49) (some x50) (some (.prim (Ax ""))) (some x52) (some x53) (some x54) (some x55) (some x56) none none (some x59) (some x60) none none none
theorem oa3 {gl:BX} (hT:HT gl):C0 PP (rhoS gl) B 48 ta3 := AJ (Ab.fn e48) (Ab.fn e49) (Ab.fn e50) (Ab.noP _) (Ab.fn e52) (Ab.fn e53) (Ab.fn e54) (Ab.fn e55) (Ab.fn e56) Ab.no Ab.no (Ab.fn e59) (Ab.fn e60) Ab.no Ab.no Ab.no
noncomputable def ta4:FA := .mk (some (.prim (Ax ""))) none none none none (some x69) (some x70) (some x71) (some x72) (some x73) (some x74) (some x75) (some x76) (some x77) (some x78) (some x79)
theorem oa4 {gl:BX} (hT:HT gl):C0 PP (rhoS gl) B 64 ta4 := AJ (Ab.noP _) Ab.no Ab.no Ab.no Ab.no (Ab.fn e69) (Ab.fn e70) (Ab.fn e71) (Ab.fn e72) (Ab.fn e73) (Ab.fn e74) (Ab.fn e75) (Ab.fn e76) (Ab.fn e77) (Ab.fn e78) (Ab.fn e79)
noncomputable def ta5:FA := .mk (some x80) (some (.prim (Ax ""))) (some x82) (some (.prim JT)) (some x84) (some (x85.toBr 400)) (some x86) (some x87) (some (x88.toBr 400)) (some x89) (some (.prim (Ax ""))) (some x91) (some x92) (some x93) (some x94) (some (.prim (Ax "")))
theorem oa5 {gl:BX} (hT:HT gl):C0 PP (rhoS gl) B 80 ta5 := AJ (Ab.fn e80) (Ab.noP _) (Ab.fn e82) (Ab.pr (Nw (g := 155) (by kernel_rfl) bare155)) (Ab.fn e84) (Ab.brX e85 ⟨_, _, _, rfl⟩) (Ab.fn e86) (Ab.fn e87) (Ab.brX e88 ⟨_, _, _, rfl⟩) (Ab.fn e89) (Ab.noP _) (Ab.fn e91) (Ab.fn e92) (Ab.fn e93) (Ab.fn e94) (Ab.noP _)
noncomputable def ta6:FA := .mk (some x96) (some (.prim (Ax ""))) (some (.prim (Ax ""))) (some (.prim (Ax ""))) (some (.prim (Ax ""))) (some (.prim (Ax ""))) (some x102) (some x103) (some (.prim (Ax ""))) (some (.prim (Ax ""))) none (some x107) (some x108) (some x109) (some x110) (some x111)
theorem oa6 {gl:BX} (hT:HT gl):C0 PP (rhoS gl) B 96 ta6 := AJ (Ab.fn e96) (Ab.noP _) (Ab.noP _) (Ab.noP _) (Ab.noP _) (Ab.noP _) (Ab.fn e102) (Ab.fn e103) (Ab.noP _) (Ab.noP _) Ab.no (Ab.fn e107) (Ab.fn e108) (Ab.fn e109) (Ab.fn e110) (Ab.fn e111)
noncomputable def ta7:FA := .mk (some x112) (some x113) none none none none (some x118) (some (.prim (Ax ""))) (some (.prim (Ax ""))) (some x121) none none none none none none
theorem oa7 {gl:BX} (hT:HT gl):C0 PP (rhoS gl) B 112 ta7 := AJ (Ab.fn e112) (Ab.fn e113) Ab.no Ab.no Ab.no Ab.no (Ab.fn e118) (Ab.noP _) (Ab.noP _) (Ab.fn e121) Ab.no Ab.no Ab.no Ab.no Ab.no Ab.no
noncomputable def ta8:FA := .mk (some x128) (some x129) none none none none (some x134) (some x135) (some x136) (some x137) (some x138) (some x139) (some x140) (some (.prim (Ax ""))) (some (.prim (Ax ""))) (some x143)
theorem oa8 {gl:BX} (hT:HT gl):C0 PP (rhoS gl) B 128 ta8 := AJ (Ab.fn e128) (Ab.fn e129) Ab.no Ab.no Ab.no Ab.no (Ab.fn e134) (Ab.fn e135) (Ab.fn e136) (Ab.fn e137) (Ab.fn e138) (Ab.fn e139) (Ab.fn e140) (Ab.noP _) (Ab.noP _) (Ab.fn e143)
noncomputable def ta9:FA := .mk (some (.prim (Ax ""))) (some (.prim (Ax ""))) (some (.prim (Ax ""))) (some (.prim (Ax ""))) (some x148) (some x149) (some x150) (some (.prim (Ax ""))) (some x152) (some x153) (some x154) none (some x156) (some x157) (some x158) (some x159)
theorem oa9 {gl:BX} (hT:HT gl):C0 PP (rhoS gl) B 144 ta9 := AJ (Ab.noP _) (Ab.noP _) (Ab.noP _) (Ab.noP _) (Ab.fn e148) (Ab.fn e149) (Ab.fn e150) (Ab.noP _) (Ab.fn e152) (Ab.fn e153) (Ab.fn e154) Ab.no (Ab.fn e156) (Ab.fn e157) (Ab.fn e158) (Ab.fn e159)
noncomputable def ta10:FA := .mk (some x160) (some x161) (some x162) (some x163) (some x164) (some (.prim (Ax ""))) (some (.prim (Ax ""))) (some (.prim (Ax ""))) (some (x168.toBr 400)) (some x169) (some x170) (some x171) none none none none
theorem oa10 {gl:BX} (hT:HT gl):C0 PP (rhoS gl) B 160 ta10 := AJ (Ab.fn e160) (Ab.fn e161) (Ab.fn e162) (Ab.fn e163) (Ab.fn e164) (Ab.noP _) (Ab.noP _) (Ab.noP _) (Ab.brX e168 ⟨_, _, _, rfl⟩) (Ab.fn e169) (Ab.fn e170) (Ab.fn e171) Ab.no Ab.no Ab.no Ab.no
noncomputable def ta11:FA := .mk none none none none none none none none none (some x185) (some x186) (some x187) (some x188) (some x189) (some x190) (some x191)
theorem oa11 {gl:BX} (hT:HT gl):C0 PP (rhoS gl) B 176 ta11 := AJ Ab.no Ab.no Ab.no Ab.no Ab.no Ab.no Ab.no Ab.no Ab.no (Ab.fn e185) (Ab.fn e186) (Ab.fn e187) (Ab.fn e188) (Ab.fn e189) (Ab.fn e190) (Ab.fn e191)
noncomputable def ta12:FA := .mk (some x192) none (some x194) (some x195) none none (some x198) (some x199) (some x200) (some x201) none none none none (some x206) (some x207)
theorem oa12 {gl:BX} (hT:HT gl):C0 PP (rhoS gl) B 192 ta12 := AJ (Ab.fn e192) Ab.no (Ab.fn e194) (Ab.fn e195) Ab.no Ab.no (Ab.fn e198) (Ab.fn e199) (Ab.fn e200) (Ab.fn e201) Ab.no Ab.no Ab.no Ab.no (Ab.fn e206) (Ab.fn e207)
noncomputable def ta13:FA := .mk (some x208) (some x209) (some x210) (some x211) none (some (.prim (Ax ""))) (some x214) none none none none none none none (some x222) (some x223)
theorem oa13 {gl:BX} (hT:HT gl):C0 PP (rhoS gl) B 208 ta13 := AJ (Ab.fn e208) (Ab.fn e209) (Ab.fn e210) (Ab.fn e211) Ab.no (Ab.noP _) (Ab.fn e214) Ab.no Ab.no Ab.no Ab.no Ab.no Ab.no Ab.no (Ab.apE (Ct.gl e222)) (Ab.fn e223)
noncomputable def ta14:FA := .mk (some x224) (some x225) (some (x226.toBr 400)) none none none (some (.prim (Ax ""))) (some (.prim (Ax ""))) none none none none none none none none
theorem oa14 {gl:BX} (hT:HT gl):C0 PP (rhoS gl) B 224 ta14 := AJ (Ab.apE (Ct.gl e224)) (Ab.fn e225) (Ab.brX e226 ⟨_, _, _, rfl⟩) Ab.no Ab.no Ab.no (Ab.noP _) (Ab.noP _) Ab.no Ab.no Ab.no Ab.no Ab.no Ab.no Ab.no Ab.no
noncomputable def ta15:FA := .mk none none none none none none none (some x247) (some (.prim HM)) (some x249) (some (.prim (Ax ""))) (some x251) (some x252) (some x253) (some x254) (some (.prim (Ax "")))
theorem oa15 {gl:BX} (hT:HT gl):C0 PP (rhoS gl) B 240 ta15 := AJ Ab.no Ab.no Ab.no Ab.no Ab.no Ab.no Ab.no (Ab.fn e247) (Ab.pr (@M1 Go.Proofs.Tryz.prog (rhoS gl) B 248 Go.Proofs.Tryz.f248 gl Go.Proofs.Tryz.func248 (by kernel_rfl) (by kernel_rfl) digits248 rfl hT)) (Ab.fn e249) (Ab.noP _) (Ab.fn e251) (Ab.fn e252) (Ab.fn e253) (Ab.fn e254) (Ab.noP _)
noncomputable def ta16:FA := .mk (some (.prim (Ax ""))) (some (.prim (Ax ""))) (some (.prim (Ax ""))) none none (some x261) (some (.prim (Ax ""))) none none none none none none none none none
theorem oa16 {gl:BX} (hT:HT gl):C0 PP (rhoS gl) B 256 ta16 := AJ (Ab.noP _) (Ab.noP _) (Ab.noP _) Ab.no Ab.no (Ab.fn e261) (Ab.noP _) Ab.no Ab.no Ab.no Ab.no Ab.no Ab.no Ab.no Ab.no Ab.no
noncomputable def ta17:FA := .mk (some x272) (some x273) (some (.prim (Ax ""))) (some (.prim (Ax ""))) (some (.prim (Ax ""))) (some (.prim (Ax ""))) (some x278) (some x279) none none none (some (.prim DN)) (some x284) (some x285) (some x286) (some x287)
theorem oa17 {gl:BX} (hT:HT gl):C0 PP (rhoS gl) B 272 ta17 := AJ (Ab.fn e272) (Ab.fn e273) (Ab.noP _) (Ab.noP _) (Ab.noP _) (Ab.noP _) (Ab.fn e278) (Ab.fn e279) Ab.no Ab.no Ab.no (Ab.pr (@Ep Go.Proofs.Tryz.prog (rhoS gl) B 283 bare283)) (Ab.fn e284) (Ab.fn e285) (Ab.fn e286) (Ab.fn e287)
noncomputable def ta18:FA := .mk (some x288) (some (.prim (Ax ""))) (some x290) (some x291) (some x292) (some x293) (some x294) (some (.prim (Ax ""))) (some (.prim (Ax ""))) (some x297) (some (.prim (Ax ""))) (some x299) (some x300) none none (some (.prim (Ax "")))
theorem oa18 {gl:BX} (hT:HT gl):C0 PP (rhoS gl) B 288 ta18 := AJ (Ab.fn e288) (Ab.noP _) (Ab.fn e290) (Ab.fn e291) (Ab.fn e292) (Ab.fn e293) (Ab.fn e294) (Ab.noP _) (Ab.noP _) (Ab.fn e297) (Ab.noP _) (Ab.fn e299) (Ab.fn e300) Ab.no Ab.no (Ab.noP _)
noncomputable def ta19:FA := .mk (some (.prim (Ax ""))) none none none none none none none none (some x313) (some (.prim (Ax ""))) (some (.prim (Ax ""))) (some (.prim (Ax ""))) (some (.prim (Ax ""))) (some (.prim (Ax ""))) (some x319)
theorem oa19 {gl:BX} (hT:HT gl):C0 PP (rhoS gl) B 304 ta19 := AJ (Ab.noP _) Ab.no Ab.no Ab.no Ab.no Ab.no Ab.no Ab.no Ab.no (Ab.fn e313) (Ab.noP _) (Ab.noP _) (Ab.noP _) (Ab.noP _) (Ab.noP _) (Ab.fn e319)
noncomputable def ta20:FA := .mk (some (.prim (Ax ""))) (some (.prim (Ax ""))) (some x322) (some (.prim (Ax ""))) (some (.prim (Ax ""))) (some (.prim (Ax ""))) (some (.prim (Ax ""))) (some (.prim (Ax ""))) (some x328) (some (.prim (Ax ""))) (some (.prim (Ax ""))) none none none none none
theorem oa20 {gl:BX} (hT:HT gl):C0 PP (rhoS gl) B 320 ta20 := AJ (Ab.noP _) (Ab.noP _) (Ab.fn e322) (Ab.noP _) (Ab.noP _) (Ab.noP _) (Ab.noP _) (Ab.noP _) (Ab.fn e328) (Ab.noP _) (Ab.noP _) Ab.no Ab.no Ab.no Ab.no Ab.no
noncomputable def ta21:FA := .mk none none none none none none none none none none none none none none none none
theorem oa21 {gl:BX} (hT:HT gl):C0 PP (rhoS gl) B 336 ta21 := AJ Ab.no Ab.no Ab.no Ab.no Ab.no Ab.no Ab.no Ab.no Ab.no Ab.no Ab.no Ab.no Ab.no Ab.no Ab.no Ab.no
noncomputable def ta22:FA := .mk none none (some x354) (some x355) (some x356) (some x357) none none none none none none none (some x365) none (some (.prim (Ax "")))
theorem oa22 {gl:BX} (hT:HT gl):C0 PP (rhoS gl) B 352 ta22 := AJ Ab.no Ab.no (Ab.fn e354) (Ab.fn e355) (Ab.fn e356) (Ab.fn e357) Ab.no Ab.no Ab.no Ab.no Ab.no Ab.no Ab.no (Ab.fn e365) Ab.no (Ab.noP _)
noncomputable def ta23:FA := .mk none (some (.prim Dq)) none none (some x372) (some x373) (some x374) (some x375) (some x376) (some (.prim (Ax ""))) (some (.prim (Ax ""))) (some (.prim (Ax ""))) (some (.prim (Ax ""))) (some (.prim (Ax ""))) (some x382) (some (.prim (Ax "")))
theorem oa23 {gl:BX} (hT:HT gl):C0 PP (rhoS gl) B 368 ta23 := AJ Ab.no (Ab.pr (@Gk Go.Proofs.Tryz.prog (rhoS gl) B 369 bare369)) Ab.no Ab.no (Ab.fn e372) (Ab.fn e373) (Ab.fn e374) (Ab.fn e375) (Ab.fn e376) (Ab.noP _) (Ab.noP _) (Ab.noP _) (Ab.noP _) (Ab.noP _) (Ab.fn e382) (Ab.noP _)
noncomputable def ta24:FA := .mk (some x384) (some x385) (some x386) (some (.prim (Ax ""))) (some x388) (some x389) (some x390) (some x391) (some x392) (some x393) (some x394) (some x395) none none (some (x398.toBr 400)) (some x399)
theorem oa24 {gl:BX} (hT:HT gl):C0 PP (rhoS gl) B 384 ta24 := AJ (Ab.fn e384) (Ab.fn e385) (Ab.fn e386) (Ab.noP _) (Ab.fn e388) (Ab.fn e389) (Ab.fn e390) (Ab.fn e391) (Ab.fn e392) (Ab.fn e393) (Ab.fn e394) (Ab.fn e395) Ab.no Ab.no (Ab.brX e398 ⟨_, _, _, rfl⟩) (Ab.fn e399)
noncomputable def ta25:FA := .mk (some x400) (some x401) (some x402) (some x403) (some (.prim (Ax ""))) none none none none none none none none none none none
theorem oa25 {gl:BX} (hT:HT gl):C0 PP (rhoS gl) B 400 ta25 := AJ (Ab.fn e400) (Ab.fn e401) (Ab.fn e402) (Ab.fn e403) (Ab.noP _) Ab.no Ab.no Ab.no Ab.no Ab.no Ab.no Ab.no Ab.no Ab.no Ab.no Ab.no
noncomputable def ta26:FA := .mk none none none none none none none none none none none none none (some x429) none none
theorem oa26 {gl:BX} (hT:HT gl):C0 PP (rhoS gl) B 416 ta26 := AJ Ab.no Ab.no Ab.no Ab.no Ab.no Ab.no Ab.no Ab.no Ab.no Ab.no Ab.no Ab.no Ab.no (Ab.fn e429) Ab.no Ab.no
noncomputable def ta27:FA := .mk none (some x433) none (some x435) none none none none none none none none none none none (some x447)
theorem oa27 {gl:BX} (hT:HT gl):C0 PP (rhoS gl) B 432 ta27 := AJ Ab.no (Ab.fn e433) Ab.no (Ab.fn e435) Ab.no Ab.no Ab.no Ab.no Ab.no Ab.no Ab.no Ab.no Ab.no Ab.no Ab.no (Ab.fn e447)
noncomputable def ta28:FA := .mk (some x448) none none (some x451) (some x452) (some x453) (some x454) (some x455) (some x456) (some x457) (some x458) (some x459) (some x460) none none none
theorem oa28 {gl:BX} (hT:HT gl):C0 PP (rhoS gl) B 448 ta28 := AJ (Ab.fn e448) Ab.no Ab.no (Ab.fn e451) (Ab.fn e452) (Ab.fn e453) (Ab.fn e454) (Ab.fn e455) (Ab.fn e456) (Ab.fn e457) (Ab.fn e458) (Ab.fn e459) (Ab.fn e460) Ab.no Ab.no Ab.no
noncomputable def ta29:FA := .mk (some x464) (some x465) (some x466) (some x467) (some x468) (some x469) none none (some x472) (some x473) (some (x474.toBr 400)) (some x475) (some (.prim (Ax ""))) (some (.prim (Ax ""))) none none
theorem oa29 {gl:BX} (hT:HT gl):C0 PP (rhoS gl) B 464 ta29 := AJ (Ab.fn e464) (Ab.fn e465) (Ab.fn e466) (Ab.fn e467) (Ab.fn e468) (Ab.fn e469) Ab.no Ab.no (Ab.fn e472) (Ab.fn e473) (Ab.brX e474 ⟨_, _, _, rfl⟩) (Ab.fn e475) (Ab.noP _) (Ab.noP _) Ab.no Ab.no
noncomputable def ta30:FA := .mk none none none none none none none none none none none none none none none none
theorem oa30 {gl:BX} (hT:HT gl):C0 PP (rhoS gl) B 480 ta30 := AJ Ab.no Ab.no Ab.no Ab.no Ab.no Ab.no Ab.no Ab.no Ab.no Ab.no Ab.no Ab.no Ab.no Ab.no Ab.no Ab.no
noncomputable def ta31:FA := .mk none none none none none none none (some x503) (some x504) (some x505) (some x506) (some x507) (some x508) none (some x510) (some (.prim (Ax "")))
theorem oa31 {gl:BX} (hT:HT gl):C0 PP (rhoS gl) B 496 ta31 := AJ Ab.no Ab.no Ab.no Ab.no Ab.no Ab.no Ab.no (Ab.fn e503) (Ab.fn e504) (Ab.fn e505) (Ab.fn e506) (Ab.fn e507) (Ab.fn e508) Ab.no (Ab.fn e510) (Ab.noP _)
noncomputable def ta32:FA := .mk (some (.prim (Ax ""))) (some (.prim (Ax ""))) (some (.prim (Ax ""))) (some (.prim (Ax ""))) (some (.prim (Ax ""))) (some (.prim (Ax ""))) (some x518) (some (.prim (Ax ""))) (some (.prim (Ax ""))) (some (.prim (Ax ""))) (some (.prim (Ax ""))) (some (.prim (Ax ""))) (some (.prim (Ax ""))) (some (.prim (Ax ""))) none none
theorem oa32 {gl:BX} (hT:HT gl):C0 PP (rhoS gl) B 512 ta32 := AJ (Ab.noP _) (Ab.noP _) (Ab.noP _) (Ab.noP _) (Ab.noP _) (Ab.noP _) (Ab.fn e518) (Ab.noP _) (Ab.noP _) (Ab.noP _) (Ab.noP _) (Ab.noP _) (Ab.noP _) (Ab.noP _) Ab.no Ab.no
noncomputable def ta33:FA := .mk none none (some (.prim (Ax ""))) (some x531) (some x532) (some x533) none none none none none none none none (some x542) none
theorem oa33 {gl:BX} (hT:HT gl):C0 PP (rhoS gl) B 528 ta33 := AJ Ab.no Ab.no (Ab.noP _) (Ab.fn e531) (Ab.fn e532) (Ab.fn e533) Ab.no Ab.no Ab.no Ab.no Ab.no Ab.no Ab.no Ab.no (Ab.fn e542) Ab.no
noncomputable def ta34:FA := .mk none none none none none none none none none (some x553) none none none none none none
theorem oa34 {gl:BX} (hT:HT gl):C0 PP (rhoS gl) B 544 ta34 := AJ Ab.no Ab.no Ab.no Ab.no Ab.no Ab.no Ab.no Ab.no Ab.no (Ab.fn e553) Ab.no Ab.no Ab.no Ab.no Ab.no Ab.no
noncomputable def ta35:FA := .mk none none none (some x563) (some x564) none none none none none none none none (some x573) (some x574) none
theorem oa35 {gl:BX} (hT:HT gl):C0 PP (rhoS gl) B 560 ta35 := AJ Ab.no Ab.no Ab.no (Ab.apE (Ct.gl e563)) (Ab.fn e564) Ab.no Ab.no Ab.no Ab.no Ab.no Ab.no Ab.no Ab.no (Ab.fn e573) (Ab.fn e574) Ab.no
noncomputable def ta36:FA := .mk none none none (some x579) (some (.prim (Ax ""))) (some (.prim (Ax ""))) (some (.prim (Ax ""))) (some (.prim (Ax ""))) (some (.prim (Ax ""))) (some x585) (some (.prim (Ax ""))) (some (.prim (Ax ""))) none none none none
theorem oa36 {gl:BX} (hT:HT gl):C0 PP (rhoS gl) B 576 ta36 := AJ Ab.no Ab.no Ab.no (Ab.fn e579) (Ab.noP _) (Ab.noP _) (Ab.noP _) (Ab.noP _) (Ab.noP _) (Ab.fn e585) (Ab.noP _) (Ab.noP _) Ab.no Ab.no Ab.no Ab.no
noncomputable def ta37:FA := .mk none none none none none none none none none none (some x602) none none none none none
theorem oa37 {gl:BX} (hT:HT gl):C0 PP (rhoS gl) B 592 ta37 := AJ Ab.no Ab.no Ab.no Ab.no Ab.no Ab.no Ab.no Ab.no Ab.no Ab.no (Ab.fn e602) Ab.no Ab.no Ab.no Ab.no Ab.no
noncomputable def tb0:FB := .mk ta0 ta1 ta2 ta3 ta4 ta5 ta6 ta7 ta8 ta9 ta10 ta11 ta12 ta13 ta14 ta15
theorem ob0 {gl:BX} (hT:HT gl):Ju PP (rhoS gl) B 0 tb0 := IT (oa0 hT) (oa1 hT) (oa2 hT) (oa3 hT) (oa4 hT) (oa5 hT) (oa6 hT) (oa7 hT) (oa8 hT) (oa9 hT) (oa10 hT) (oa11 hT) (oa12 hT) (oa13 hT) (oa14 hT) (oa15 hT)
noncomputable def tb1:FB := .mk ta16 ta17 ta18 ta19 ta20 ta21 ta22 ta23 ta24 ta25 ta26 ta27 ta28 ta29 ta30 ta31
theorem ob1 {gl:BX} (hT:HT gl):Ju PP (rhoS gl) B 256 tb1 := IT (oa16 hT) (oa17 hT) (oa18 hT) (oa19 hT) (oa20 hT) (oa21 hT) (oa22 hT) (oa23 hT) (oa24 hT) (oa25 hT) (oa26 hT) (oa27 hT) (oa28 hT) (oa29 hT) (oa30 hT) (oa31 hT)
noncomputable def tb2:FB := .mk ta32 ta33 ta34 ta35 ta36 ta37 FQ FQ FQ FQ FQ FQ FQ FQ FQ FQ
theorem ob2 {gl:BX} (hT:HT gl):Ju PP (rhoS gl) B 512 tb2 := IT (oa32 hT) (oa33 hT) (oa34 hT) (oa35 hT) (oa36 hT) (oa37 hT) C9 C9 C9 C9 C9 C9 C9 C9 C9 C9
noncomputable def tab:FC := .mk tb0 tb1 tb2 Ho Ho Ho Ho Ho Ho Ho Ho Ho Ho Ho Ho Ho
theorem tab_ok {gl:BX} (hT:HT gl) (B:Nat):Gz Go.Proofs.Tryz.prog (rhoS gl) B tab := .mkG (SA (ob0 hT) (ob1 hT) (ob2 hT) BV BV BV BV BV BV BV BV BV BV BV BV) (GH ⟨x222, by kernel_rfl, Ct.gl e222⟩ (GH ⟨x224, by kernel_rfl, Ct.gl e224⟩ (GH ⟨x563, by kernel_rfl, Ct.gl e563⟩ RU)))
end Go.Ev.YtbjghkngijepbaaGreatDoor
