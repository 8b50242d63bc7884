/- The table of the functions. -/
import Derived.Test.YtnacbbemgocmcaaGreatDoorQF0
import Derived.Test.YtnacbbemgocmcaaGreatDoorQF1
import Derived.Test.YtnacbbemgocmcaaGreatDoorQF2
import Derived.Test.YtnacbbemgocmcaaGreatDoorQF3
import Derived.Test.YtnacbbemgocmcaaGreatDoorQF4
import Derived.Test.YtnacbbemgocmcaaGreatDoorQF5
import Derived.Test.YtnacbbemgocmcaaGreatDoorQF6
import Derived.Test.YtnacbbemgocmcaaGreatDoorQEv5
import Derived.Test.YtnacbbemgocmcaaGreatDoorQEv5
import Derived.Test.YtnacbbemgocmcaaGreatDoorQK
import Derived.Test.YtnacbbemgocmcaaGreatDoorQS
import Derived.KernelRfl
namespace Go.Ev.YtnacbbemgocmcaaGreatDoor
open Go Go.Ev
set_option linter.unusedVariables false
set_option maxRecDepth 100000

theorem bare290:Bare Go.Proofs.Tryz.prog 290 Extern.MapsClone.clone := ⟨Go.Proofs.Tryz.f290, Go.Proofs.Tryz.func290, by kernel_rfl, by kernel_rfl, by kernel_rfl, by kernel_rfl⟩
theorem bare461:Bare Go.Proofs.Tryz.prog 461 Extern.BytealgIndexByte.indexByte := ⟨Go.Proofs.Tryz.f461, Go.Proofs.Tryz.func461, by kernel_rfl, by kernel_rfl, by kernel_rfl, by kernel_rfl⟩
theorem bare492:Bare Go.Proofs.Tryz.prog 492 Extern.BytealgCount.count := ⟨Go.Proofs.Tryz.f492, Go.Proofs.Tryz.func492, by kernel_rfl, by kernel_rfl, by kernel_rfl, by kernel_rfl⟩
def nren:Shelf.Ren := { f := fun x => match x with | 129 => 259 | 284 => 286 | 317 => 356 | 318 => 357 | _ => 0, t := fun x => match x with | 0 => 0 | 3 => 3 | 4 => 4 | 5 => 5 | 9 => 9 | 46 => 297 | 53 => 146 | 212 => 470 | _ => 0, g := fun _ => 0 }
theorem nlay:Go.Proofs.LaysM.n284 Go.Proofs.Tryz.prog nren where
  mixed := by kernel_rfl
  f129 := Go.Proofs.Tryz.func259.trans (by kernel_rfl)
  f284 := Go.Proofs.Tryz.func286.trans (by kernel_rfl)
  f317 := Go.Proofs.Tryz.func356.trans (by kernel_rfl)
  f318 := Go.Proofs.Tryz.func357.trans (by kernel_rfl)
  t0 := Go.Proofs.Tryz.underlying0
  a0 := Go.Proofs.Tryz.isAgg0
  z0 := Go.Proofs.Tryz.sizeOf0
  v0 := Go.Proofs.Tryz.zeroValue0
  i0 := by kernel_rfl
  t3 := Go.Proofs.Tryz.underlying3
  a3 := Go.Proofs.Tryz.isAgg3
  z3 := Go.Proofs.Tryz.sizeOf3
  v3 := Go.Proofs.Tryz.zeroValue3
  i3 := by kernel_rfl
  t4 := Go.Proofs.Tryz.underlying4
  a4 := Go.Proofs.Tryz.isAgg4
  z4 := Go.Proofs.Tryz.sizeOf4
  v4 := Go.Proofs.Tryz.zeroValue4
  i4 := by kernel_rfl
  t5 := Go.Proofs.Tryz.underlying5
  a5 := Go.Proofs.Tryz.isAgg5
  z5 := Go.Proofs.Tryz.sizeOf5
  v5 := Go.Proofs.Tryz.zeroValue5
  i5 := by kernel_rfl
  t9 := Go.Proofs.Tryz.underlying9
  a9 := Go.Proofs.Tryz.isAgg9
  z9 := Go.Proofs.Tryz.sizeOf9
  v9 := Go.Proofs.Tryz.zeroValue9
  i9 := by kernel_rfl
  t46 := Go.Proofs.Tryz.underlying297
  a46 := Go.Proofs.Tryz.isAgg297
  z46 := Go.Proofs.Tryz.sizeOf297
  v46 := Go.Proofs.Tryz.zeroValue297
  i46 := by kernel_rfl
  t53 := Go.Proofs.Tryz.underlying146
  a53 := Go.Proofs.Tryz.isAgg146
  z53 := Go.Proofs.Tryz.sizeOf146
  v53 := Go.Proofs.Tryz.zeroValue146
  i53 := by kernel_rfl
  t212 := Go.Proofs.Tryz.underlying470
  a212 := Go.Proofs.Tryz.isAgg470
  z212 := Go.Proofs.Tryz.sizeOf470
  v212 := Go.Proofs.Tryz.zeroValue470
  i212 := by kernel_rfl
  g17 := by kernel_rfl
  m17 := by kernel_rfl
theorem digits286:PI Go.Proofs.Tryz.prog 286 := fun u h1 h2 w ht => Go.Proofs.Any.internal_strconv_numDigits nlay u h1 h2 w ht
def sren:Shelf.Ren := { f := fun x => match x with | 6 => 175 | 8 => 168 | 9 => 269 | 19 => 258 | 20 => 259 | 21 => 342 | 22 => 343 | 23 => 344 | 24 => 345 | 25 => 346 | 26 => 347 | 27 => 348 | 28 => 349 | 29 => 350 | 31 => 330 | 32 => 331 | 36 => 406 | 37 => 407 | 38 => 408 | 39 => 409 | 41 => 467 | _ => 0, t := fun x => match x with | 0 => 0 | 3 => 3 | 4 => 4 | 5 => 5 | 9 => 9 | 26 => 121 | 27 => 121 | 29 => 9 | 32 => 297 | 35 => 378 | 36 => 379 | 41 => 383 | 44 => 49 | 46 => 146 | 53 => 449 | 57 => 453 | 63 => 515 | 64 => 516 | _ => 0, g := fun _ => 0 }
theorem slay:Go.Proofs.SlLaysM.n6 Go.Proofs.Tryz.prog sren where
  mixed := by kernel_rfl
  f6 := ⟨Go.Proofs.Tryz.f175.name, of_decide_eq_true (by kernel_rfl), Go.Proofs.Tryz.func175.trans (by kernel_rfl)⟩
  f8 := Go.Proofs.Tryz.func168.trans (by kernel_rfl)
  f9 := ⟨Go.Proofs.Tryz.f269.name, of_decide_eq_true (by kernel_rfl), Go.Proofs.Tryz.func269.trans (by kernel_rfl)⟩
  f19 := Go.Proofs.Tryz.func258.trans (by kernel_rfl)
  f20 := Go.Proofs.Tryz.func259.trans (by kernel_rfl)
  f21 := ⟨Go.Proofs.Tryz.f342.name, of_decide_eq_true (by kernel_rfl), Go.Proofs.Tryz.func342.trans (by kernel_rfl)⟩
  f22 := ⟨Go.Proofs.Tryz.f343.name, of_decide_eq_true (by kernel_rfl), Go.Proofs.Tryz.func343.trans (by kernel_rfl)⟩
  f23 := ⟨Go.Proofs.Tryz.f344.name, of_decide_eq_true (by kernel_rfl), Go.Proofs.Tryz.func344.trans (by kernel_rfl)⟩
  f24 := ⟨Go.Proofs.Tryz.f345.name, of_decide_eq_true (by kernel_rfl), Go.Proofs.Tryz.func345.trans (by kernel_rfl)⟩
  f25 := ⟨Go.Proofs.Tryz.f346.name, of_decide_eq_true (by kernel_rfl), Go.Proofs.Tryz.func346.trans (by kernel_rfl)⟩
  f26 := ⟨Go.Proofs.Tryz.f347.name, of_decide_eq_true (by kernel_rfl), Go.Proofs.Tryz.func347.trans (by kernel_rfl)⟩
  f27 := ⟨Go.Proofs.Tryz.f348.name, of_decide_eq_true (by kernel_rfl), Go.Proofs.Tryz.func348.trans (by kernel_rfl)⟩
  f28 := ⟨Go.Proofs.Tryz.f349.name, of_decide_eq_true (by kernel_rfl), Go.Proofs.Tryz.func349.trans (by kernel_rfl)⟩
  f29 := ⟨Go.Proofs.Tryz.f350.name, of_decide_eq_true (by kernel_rfl), Go.Proofs.Tryz.func350.trans (by kernel_rfl)⟩
  f31 := Go.Proofs.Tryz.func330.trans (by kernel_rfl)
  f32 := Go.Proofs.Tryz.func331.trans (by kernel_rfl)
  f36 := ⟨Go.Proofs.Tryz.f406.name, of_decide_eq_true (by kernel_rfl), Go.Proofs.Tryz.func406.trans (by kernel_rfl)⟩
  f37 := ⟨Go.Proofs.Tryz.f407.name, of_decide_eq_true (by kernel_rfl), Go.Proofs.Tryz.func407.trans (by kernel_rfl)⟩
  f38 := ⟨Go.Proofs.Tryz.f408.name, of_decide_eq_true (by kernel_rfl), Go.Proofs.Tryz.func408.trans (by kernel_rfl)⟩
  f39 := ⟨Go.Proofs.Tryz.f409.name, of_decide_eq_true (by kernel_rfl), Go.Proofs.Tryz.func409.trans (by kernel_rfl)⟩
  f41 := ⟨Go.Proofs.Tryz.f467.name, of_decide_eq_true (by kernel_rfl), Go.Proofs.Tryz.func467.trans (by kernel_rfl)⟩
  t0 := Go.Proofs.Tryz.underlying0
  a0 := Go.Proofs.Tryz.isAgg0
  z0 := Go.Proofs.Tryz.sizeOf0
  v0 := Go.Proofs.Tryz.zeroValue0
  t3 := Go.Proofs.Tryz.underlying3
  a3 := Go.Proofs.Tryz.isAgg3
  z3 := Go.Proofs.Tryz.sizeOf3
  v3 := Go.Proofs.Tryz.zeroValue3
  t4 := Go.Proofs.Tryz.underlying4
  a4 := Go.Proofs.Tryz.isAgg4
  z4 := Go.Proofs.Tryz.sizeOf4
  v4 := Go.Proofs.Tryz.zeroValue4
  t5 := Go.Proofs.Tryz.underlying5
  a5 := Go.Proofs.Tryz.isAgg5
  z5 := Go.Proofs.Tryz.sizeOf5
  v5 := Go.Proofs.Tryz.zeroValue5
  t9 := Go.Proofs.Tryz.underlying9
  a9 := Go.Proofs.Tryz.isAgg9
  z9 := Go.Proofs.Tryz.sizeOf9
  v9 := Go.Proofs.Tryz.zeroValue9
  t26 := Go.Proofs.Tryz.underlying121
  a26 := Go.Proofs.Tryz.isAgg121
  z26 := Go.Proofs.Tryz.sizeOf121
  v26 := Go.Proofs.Tryz.zeroValue121
  t27 := Go.Proofs.Tryz.underlying121
  a27 := Go.Proofs.Tryz.isAgg121
  z27 := Go.Proofs.Tryz.sizeOf121
  v27 := Go.Proofs.Tryz.zeroValue121
  t29 := Go.Proofs.Tryz.underlying9
  a29 := Go.Proofs.Tryz.isAgg9
  z29 := Go.Proofs.Tryz.sizeOf9
  v29 := Go.Proofs.Tryz.zeroValue9
  t32 := Go.Proofs.Tryz.underlying297
  a32 := Go.Proofs.Tryz.isAgg297
  z32 := Go.Proofs.Tryz.sizeOf297
  v32 := Go.Proofs.Tryz.zeroValue297
  t35 := Go.Proofs.Tryz.underlying378
  a35 := Go.Proofs.Tryz.isAgg378
  z35 := Go.Proofs.Tryz.sizeOf378
  v35 := Go.Proofs.Tryz.zeroValue378
  t36 := Go.Proofs.Tryz.underlying379
  a36 := Go.Proofs.Tryz.isAgg379
  z36 := Go.Proofs.Tryz.sizeOf379
  v36 := Go.Proofs.Tryz.zeroValue379
  t41 := Go.Proofs.Tryz.underlying383
  a41 := Go.Proofs.Tryz.isAgg383
  z41 := Go.Proofs.Tryz.sizeOf383
  v41 := Go.Proofs.Tryz.zeroValue383
  t44 := Go.Proofs.Tryz.underlying49
  a44 := Go.Proofs.Tryz.isAgg49
  z44 := Go.Proofs.Tryz.sizeOf49
  v44 := Go.Proofs.Tryz.zeroValue49
  t46 := Go.Proofs.Tryz.underlying146
  a46 := Go.Proofs.Tryz.isAgg146
  z46 := Go.Proofs.Tryz.sizeOf146
  v46 := Go.Proofs.Tryz.zeroValue146
  t53 := Go.Proofs.Tryz.underlying449
  a53 := Go.Proofs.Tryz.isAgg449
  z53 := Go.Proofs.Tryz.sizeOf449
  v53 := Go.Proofs.Tryz.zeroValue449
  t57 := Go.Proofs.Tryz.underlying453
  a57 := Go.Proofs.Tryz.isAgg453
  z57 := Go.Proofs.Tryz.sizeOf453
  v57 := Go.Proofs.Tryz.zeroValue453
  t63 := Go.Proofs.Tryz.underlying515
  a63 := Go.Proofs.Tryz.isAgg515
  z63 := Go.Proofs.Tryz.sizeOf515
  v63 := Go.Proofs.Tryz.zeroValue515
  t64 := Go.Proofs.Tryz.underlying516
  a64 := Go.Proofs.Tryz.isAgg516
  z64 := Go.Proofs.Tryz.sizeOf516
  v64 := Go.Proofs.Tryz.zeroValue516

theorem sort175:RT Go.Proofs.Tryz.prog 175 := ⟨fun blk off cap ss w hH hb hl => Go.Proofs.AnyM.slices_Sort_string slay blk off cap ss w hH hb hl, fun p cap w => Go.Proofs.AnyM.slices_Sort_string_none slay p cap w⟩
noncomputable abbrev rhoS (gl:CJ):Env := L2 Go.Proofs.Tryz.prog [166, 268, 389, 470] gl
theorem oneS {gl:CJ}:Bp (rhoS gl) := YC
abbrev HT (gl:CJ):Prop := QA PP gl "internal/strconv.uint64pow10" .u64 Lib.pow10Tab
variable {B:Nat}
namespace Z
noncomputable def ta0:FA := .mk none none none none (some x4) none none none (some x8) (some x9) (some x10) (some x11) (some (.prim (B5 ""))) (some x13) (some x14) (some x15)
theorem oa0 {gl:CJ} (hT:HT gl):CE PP (rhoS gl) B 0 ta0 := AX Ae.no Ae.no Ae.no Ae.no (Ae.fn e4) Ae.no Ae.no Ae.no (Ae.fn e8) (Ae.fn e9) (Ae.fn e10) (Ae.fn e11) (Ae.noP _) (Ae.fn e13) (Ae.fn e14) (Ae.fn e15)
noncomputable def ta1:FA := .mk (some x16) (some x17) (some x18) (some x19) (some x20) (some x21) (some (.tree Ow)) (some x23) (some x24) (some x25) none (some x27) (some x28) (some x29) (some x30) none
theorem oa1 {gl:CJ} (hT:HT gl):CE PP (rhoS gl) B 16 ta1 := AX (Ae.fn e16) (Ae.fn e17) (Ae.fn e18) (Ae.fn e19) (Ae.fn e20) (Ae.fn e21) (Ae.tr (P1 Go.Proofs.Tryz.func22 (by kernel_rfl) (by kernel_rfl) small_fn)) (Ae.fn e23) (Ae.fn e24) (Ae.fn e25) Ae.no (Ae.fn e27) (Ae.fn e28) (Ae.fn e29) (Ae.fn e30) Ae.no
noncomputable def ta2:FA := .mk (some x32) none none none (some x36) (some x37) (some x38) (some (.prim (B5 ""))) (some x40) (some x41) (some x42) (some x43) (some x44) (some x45) (some x46) (some x47)
theorem oa2 {gl:CJ} (hT:HT gl):CE PP (rhoS gl) B 32 ta2 := AX (Ae.fn e32) Ae.no Ae.no Ae.no (Ae.fn e36) (Ae.fn e37) (Ae.fn e38) (Ae.noP _) (Ae.fn e40) (Ae.fn e41) (Ae.fn e42) (Ae.fn e43) (Ae.fn e44) (Ae.fn e45) (Ae.fn e46) (Ae.fn e47)
noncomputable def ta3:FA := .mk (some x48) (some (x49.toBr 400)) (some x50) (some x51) (some x52) (some x53) (some x54) (some x55) (some x56) (some x57) (some x58) (some x59) (some x60) (some x61) (some x62) none
theorem oa3 {gl:CJ} (hT:HT gl):CE PP (rhoS gl) B 48 ta3 := AX (Ae.fn e48) (Ae.brX e49 ⟨_, _, _, rfl⟩) (Ae.fn e50) (Ae.fn e51) (Ae.fn e52) (Ae.fn e53) (Ae.fn e54) (Ae.fn e55) (Ae.fn e56) (Ae.fn e57) (Ae.fn e58) (Ae.fn e59) (Ae.fn e60) (Ae.fn e61) (Ae.fn e62) Ae.no
noncomputable def ta4:FA := .mk (some x64) (some x65) (some x66) (some x67) (some x68) (some (.prim (B5 ""))) (some x70) (some x71) (some x72) (some x73) (some x74) (some x75) none none none (some x79)
theorem oa4 {gl:CJ} (hT:HT gl):CE PP (rhoS gl) B 64 ta4 := AX (Ae.fn e64) (Ae.fn e65) (Ae.fn e66) (Ae.fn e67) (Ae.fn e68) (Ae.noP _) (Ae.fn e70) (Ae.fn e71) (Ae.fn e72) (Ae.fn e73) (Ae.fn e74) (Ae.fn e75) Ae.no Ae.no Ae.no (Ae.fn e79)
noncomputable def ta5:FA := .mk (some x80) (some x81) (some x82) (some x83) (some x84) (some x85) (some x86) (some x87) (some x88) (some x89) (some x90) (some x91) (some x92) (some x93) (some x94) (some x95)
theorem oa5 {gl:CJ} (hT:HT gl):CE PP (rhoS gl) B 80 ta5 := AX (Ae.fn e80) (Ae.fn e81) (Ae.fn e82) (Ae.fn e83) (Ae.fn e84) (Ae.fn e85) (Ae.fn e86) (Ae.fn e87) (Ae.fn e88) (Ae.fn e89) (Ae.fn e90) (Ae.fn e91) (Ae.fn e92) (Ae.fn e93) (Ae.fn e94) (Ae.fn e95)
noncomputable def ta6:FA := .mk (some x96) (some x97) (some x98) (some x99) (some (x100.toBr 400)) (some x101) (some x102) (some (.prim (B5 ""))) (some (.prim (B5 ""))) (some x105) (some x106) (some x107) none none none (some x111)
theorem oa6 {gl:CJ} (hT:HT gl):CE PP (rhoS gl) B 96 ta6 := AX (Ae.fn e96) (Ae.fn e97) (Ae.fn e98) (Ae.fn e99) (Ae.brX e100 ⟨_, _, _, rfl⟩) (Ae.fn e101) (Ae.fn e102) (Ae.noP _) (Ae.noP _) (Ae.fn e105) (Ae.fn e106) (Ae.fn e107) Ae.no Ae.no Ae.no (Ae.fn e111)
noncomputable def ta7:FA := .mk none (some x113) none none none none none (some x119) (some x120) (some x121) (some x122) (some x123) (some (.prim (B5 ""))) (some x125) (some x126) (some x127)
theorem oa7 {gl:CJ} (hT:HT gl):CE PP (rhoS gl) B 112 ta7 := AX Ae.no (Ae.fn e113) Ae.no Ae.no Ae.no Ae.no Ae.no (Ae.fn e119) (Ae.fn e120) (Ae.fn e121) (Ae.fn e122) (Ae.fn e123) (Ae.noP _) (Ae.fn e125) (Ae.fn e126) (Ae.fn e127)
noncomputable def ta8:FA := .mk (some x128) (some x129) (some (.prim (B5 ""))) (some x131) none none (some x134) (some x135) (some x136) (some x137) (some x138) (some x139) (some x140) (some x141) (some x142) (some x143)
theorem oa8 {gl:CJ} (hT:HT gl):CE PP (rhoS gl) B 128 ta8 := AX (Ae.fn e128) (Ae.fn e129) (Ae.noP _) (Ae.fn e131) Ae.no Ae.no (Ae.fn e134) (Ae.fn e135) (Ae.fn e136) (Ae.fn e137) (Ae.fn e138) (Ae.fn e139) (Ae.fn e140) (Ae.fn e141) (Ae.fn e142) (Ae.fn e143)
noncomputable def ta9:FA := .mk (some x144) (some x145) (some x146) (some x147) (some x148) (some x149) (some x150) (some x151) (some x152) (some x153) (some x154) (some x155) (some x156) (some x157) (some x158) (some x159)
theorem oa9 {gl:CJ} (hT:HT gl):CE PP (rhoS gl) B 144 ta9 := AX (Ae.fn e144) (Ae.fn e145) (Ae.fn e146) (Ae.fn e147) (Ae.fn e148) (Ae.fn e149) (Ae.fn e150) (Ae.fn e151) (Ae.fn e152) (Ae.fn e153) (Ae.fn e154) (Ae.fn e155) (Ae.fn e156) (Ae.fn e157) (Ae.fn e158) (Ae.fn e159)
noncomputable def ta10:FA := .mk (some x160) (some x161) (some x162) (some x163) (some x164) (some (.prim (B5 ""))) (some x166) (some x167) (some x168) (some x169) (some x170) (some x171) (some x172) (some x173) (some x174) (some (.prim Gy))
theorem oa10 {gl:CJ} (hT:HT gl):CE PP (rhoS gl) B 160 ta10 := AX (Ae.fn e160) (Ae.fn e161) (Ae.fn e162) (Ae.fn e163) (Ae.fn e164) (Ae.noP _) (Ae.apE (Cd.gl e166)) (Ae.fn e167) (Ae.fn e168) (Ae.fn e169) (Ae.fn e170) (Ae.fn e171) (Ae.fn e172) (Ae.fn e173) (Ae.fn e174) (Ae.pr (@Pf Go.Proofs.Tryz.prog (rhoS gl) B 175 Go.Proofs.Tryz.f175 Go.Proofs.Tryz.func175 (by kernel_rfl) (by kernel_rfl) sort175))
noncomputable def ta11:FA := .mk (some x176) (some x177) (some x178) (some (.prim (B5 ""))) (some x180) none none (some x183) (some x184) (some x185) (some x186) (some x187) (some x188) (some x189) (some x190) (some x191)
theorem oa11 {gl:CJ} (hT:HT gl):CE PP (rhoS gl) B 176 ta11 := AX (Ae.fn e176) (Ae.fn e177) (Ae.fn e178) (Ae.noP _) (Ae.fn e180) Ae.no Ae.no (Ae.fn e183) (Ae.fn e184) (Ae.fn e185) (Ae.fn e186) (Ae.fn e187) (Ae.fn e188) (Ae.fn e189) (Ae.fn e190) (Ae.fn e191)
noncomputable def ta12:FA := .mk none (some x193) (some x194) (some x195) (some x196) none none (some x199) (some x200) (some x201) (some x202) (some x203) (some x204) (some (.prim Lb)) (some x206) (some x207)
theorem oa12 {gl:CJ} (hT:HT gl):CE PP (rhoS gl) B 192 ta12 := AX Ae.no (Ae.fn e193) (Ae.fn e194) (Ae.fn e195) (Ae.fn e196) Ae.no Ae.no (Ae.fn e199) (Ae.fn e200) (Ae.fn e201) (Ae.fn e202) (Ae.fn e203) (Ae.fn e204) (Ae.pr (P5 (g := 290) (by kernel_rfl) bare290)) (Ae.fn e206) (Ae.fn e207)
noncomputable def ta13:FA := .mk (some x208) (some x209) (some x210) (some x211) (some x212) (some x213) none (some x215) (some x216) none (some x218) (some x219) (some x220) (some (x221.toBr 400)) (some x222) (some x223)
theorem oa13 {gl:CJ} (hT:HT gl):CE PP (rhoS gl) B 208 ta13 := AX (Ae.fn e208) (Ae.fn e209) (Ae.fn e210) (Ae.fn e211) (Ae.fn e212) (Ae.fn e213) Ae.no (Ae.fn e215) (Ae.fn e216) Ae.no (Ae.fn e218) (Ae.fn e219) (Ae.fn e220) (Ae.brX e221 ⟨_, _, _, rfl⟩) (Ae.fn e222) (Ae.fn e223)
noncomputable def ta14:FA := .mk (some x224) (some x225) (some (.prim (B5 ""))) (some x227) (some x228) (some x229) (some x230) (some x231) (some x232) (some x233) (some x234) (some x235) (some x236) (some x237) (some x238) (some x239)
theorem oa14 {gl:CJ} (hT:HT gl):CE PP (rhoS gl) B 224 ta14 := AX (Ae.fn e224) (Ae.fn e225) (Ae.noP _) (Ae.fn e227) (Ae.fn e228) (Ae.fn e229) (Ae.fn e230) (Ae.fn e231) (Ae.fn e232) (Ae.fn e233) (Ae.fn e234) (Ae.fn e235) (Ae.fn e236) (Ae.fn e237) (Ae.fn e238) (Ae.fn e239)
noncomputable def ta15:FA := .mk (some x240) (some x241) (some x242) (some x243) (some x244) (some x245) (some x246) (some (.prim (B5 ""))) (some x248) (some x249) (some (.prim (B5 ""))) (some (.prim (B5 ""))) (some (.prim (B5 ""))) (some (.prim (B5 ""))) (some (.prim (B5 ""))) (some x255)
theorem oa15 {gl:CJ} (hT:HT gl):CE PP (rhoS gl) B 240 ta15 := AX (Ae.fn e240) (Ae.fn e241) (Ae.fn e242) (Ae.fn e243) (Ae.fn e244) (Ae.fn e245) (Ae.fn e246) (Ae.noP _) (Ae.fn e248) (Ae.fn e249) (Ae.noP _) (Ae.noP _) (Ae.noP _) (Ae.noP _) (Ae.noP _) (Ae.fn e255)
noncomputable def ta16:FA := .mk (some (.prim (B5 ""))) (some (.prim (B5 ""))) (some x258) (some x259) (some x260) (some (.prim (B5 ""))) (some (.prim (B5 ""))) (some (.prim (B5 ""))) (some (.prim (B5 ""))) (some (.prim (B5 ""))) (some (.prim (B5 ""))) (some (.prim (B5 ""))) (some x268) none (some x270) (some x271)
theorem oa16 {gl:CJ} (hT:HT gl):CE PP (rhoS gl) B 256 ta16 := AX (Ae.noP _) (Ae.noP _) (Ae.fn e258) (Ae.fn e259) (Ae.fn e260) (Ae.noP _) (Ae.noP _) (Ae.noP _) (Ae.noP _) (Ae.noP _) (Ae.noP _) (Ae.noP _) (Ae.apE (Cd.gl e268)) Ae.no (Ae.fn e270) (Ae.fn e271)
noncomputable def ta17:FA := .mk (some x272) (some x273) (some x274) none (some x276) none none none none none none none none (some x285) (some (.prim IZ)) (some x287)
theorem oa17 {gl:CJ} (hT:HT gl):CE PP (rhoS gl) B 272 ta17 := AX (Ae.fn e272) (Ae.fn e273) (Ae.fn e274) Ae.no (Ae.fn e276) Ae.no Ae.no Ae.no Ae.no Ae.no Ae.no Ae.no Ae.no (Ae.fn e285) (Ae.pr (@NH Go.Proofs.Tryz.prog (rhoS gl) B 286 Go.Proofs.Tryz.f286 gl Go.Proofs.Tryz.func286 (by kernel_rfl) (by kernel_rfl) digits286 rfl hT)) (Ae.fn e287)
noncomputable def ta18:FA := .mk (some (.prim (B5 ""))) (some x289) none (some x291) (some x292) (some x293) (some x294) (some x295) (some x296) (some (x297.toBr 400)) (some (.prim (B5 ""))) (some x299) (some x300) (some x301) (some (.prim (B5 ""))) (some x303)
theorem oa18 {gl:CJ} (hT:HT gl):CE PP (rhoS gl) B 288 ta18 := AX (Ae.noP _) (Ae.fn e289) Ae.no (Ae.fn e291) (Ae.fn e292) (Ae.fn e293) (Ae.fn e294) (Ae.fn e295) (Ae.fn e296) (Ae.brX e297 ⟨_, _, _, rfl⟩) (Ae.noP _) (Ae.fn e299) (Ae.fn e300) (Ae.fn e301) (Ae.noP _) (Ae.fn e303)
noncomputable def ta19:FA := .mk (some x304) (some x305) (some x306) (some x307) (some x308) (some x309) (some x310) (some x311) (some x312) (some x313) (some x314) (some x315) (some x316) (some x317) (some x318) (some x319)
theorem oa19 {gl:CJ} (hT:HT gl):CE PP (rhoS gl) B 304 ta19 := AX (Ae.fn e304) (Ae.fn e305) (Ae.fn e306) (Ae.fn e307) (Ae.fn e308) (Ae.fn e309) (Ae.fn e310) (Ae.fn e311) (Ae.fn e312) (Ae.fn e313) (Ae.fn e314) (Ae.fn e315) (Ae.fn e316) (Ae.fn e317) (Ae.fn e318) (Ae.fn e319)
noncomputable def ta20:FA := .mk (some x320) (some x321) (some x322) (some x323) (some x324) (some x325) (some (.prim (B5 ""))) (some x327) (some x328) none none none none none (some x334) none
theorem oa20 {gl:CJ} (hT:HT gl):CE PP (rhoS gl) B 320 ta20 := AX (Ae.fn e320) (Ae.fn e321) (Ae.fn e322) (Ae.fn e323) (Ae.fn e324) (Ae.fn e325) (Ae.noP _) (Ae.fn e327) (Ae.fn e328) Ae.no Ae.no Ae.no Ae.no Ae.no (Ae.fn e334) Ae.no
noncomputable def ta21:FA := .mk none none none none none none none none none none none none none none none (some x351)
theorem oa21 {gl:CJ} (hT:HT gl):CE PP (rhoS gl) B 336 ta21 := AX Ae.no Ae.no Ae.no Ae.no Ae.no Ae.no Ae.no Ae.no Ae.no Ae.no Ae.no Ae.no Ae.no Ae.no Ae.no (Ae.fn e351)
noncomputable def ta22:FA := .mk (some x352) none none none none none none none (some x360) (some (.prim (B5 ""))) (some (.prim (B5 ""))) (some (.prim (B5 ""))) (some (.prim (B5 ""))) (some (.prim (B5 ""))) (some (.prim (B5 ""))) (some (.prim (B5 "")))
theorem oa22 {gl:CJ} (hT:HT gl):CE PP (rhoS gl) B 352 ta22 := AX (Ae.fn e352) Ae.no Ae.no Ae.no Ae.no Ae.no Ae.no Ae.no (Ae.fn e360) (Ae.noP _) (Ae.noP _) (Ae.noP _) (Ae.noP _) (Ae.noP _) (Ae.noP _) (Ae.noP _)
noncomputable def ta23:FA := .mk (some x368) (some x369) (some x370) (some x371) (some x372) none none none (some (.prim (B5 ""))) (some x377) (some x378) none (some x380) (some x381) (some x382) (some x383)
theorem oa23 {gl:CJ} (hT:HT gl):CE PP (rhoS gl) B 368 ta23 := AX (Ae.fn e368) (Ae.fn e369) (Ae.fn e370) (Ae.fn e371) (Ae.fn e372) Ae.no Ae.no Ae.no (Ae.noP _) (Ae.fn e377) (Ae.fn e378) Ae.no (Ae.fn e380) (Ae.fn e381) (Ae.fn e382) (Ae.fn e383)
noncomputable def ta24:FA := .mk (some x384) (some x385) (some x386) (some x387) (some (.prim (B5 ""))) (some x389) (some x390) (some x391) (some x392) (some x393) (some x394) (some x395) (some (.prim (B5 ""))) (some x397) (some x398) (some x399)
theorem oa24 {gl:CJ} (hT:HT gl):CE PP (rhoS gl) B 384 ta24 := AX (Ae.fn e384) (Ae.fn e385) (Ae.fn e386) (Ae.fn e387) (Ae.noP _) (Ae.apE (Cd.gl e389)) (Ae.fn e390) (Ae.fn e391) (Ae.fn e392) (Ae.fn e393) (Ae.fn e394) (Ae.fn e395) (Ae.noP _) (Ae.fn e397) (Ae.fn e398) (Ae.fn e399)
noncomputable def ta25:FA := .mk (some x400) none none none none none none none none none (some x410) (some x411) (some x412) (some x413) none none
theorem oa25 {gl:CJ} (hT:HT gl):CE PP (rhoS gl) B 400 ta25 := AX (Ae.fn e400) Ae.no Ae.no Ae.no Ae.no Ae.no Ae.no Ae.no Ae.no Ae.no (Ae.fn e410) (Ae.fn e411) (Ae.fn e412) (Ae.fn e413) Ae.no Ae.no
noncomputable def ta26:FA := .mk none none none none (some x420) (some (.prim (GD 371))) (some x422) none (some x424) none none none none none none none
theorem oa26 {gl:CJ} (hT:HT gl):CE PP (rhoS gl) B 416 ta26 := AX Ae.no Ae.no Ae.no Ae.no (Ae.fn e420) (Ae.pr (@Mf Go.Proofs.Tryz.prog (rhoS gl) B 421 371 Go.Proofs.Tryz.f421 Go.Proofs.Tryz.f371 199 232 3 Go.Proofs.Tryz.func421 (by kernel_rfl) (by kernel_rfl) sortf421 sortn421 Go.Proofs.Tryz.func371 (by kernel_rfl) (by kernel_rfl) cmp371 Go.Proofs.Tryz.underlying199 (by kernel_rfl))) (Ae.fn e422) Ae.no (Ae.fn e424) Ae.no Ae.no Ae.no Ae.no Ae.no Ae.no Ae.no
noncomputable def ta27:FA := .mk none (some x433) (some x434) (some x435) (some x436) (some x437) (some x438) (some x439) (some x440) none none (some x443) (some (.prim (B5 ""))) (some (.prim (B5 ""))) (some (.prim (B5 ""))) (some (.prim (B5 "")))
theorem oa27 {gl:CJ} (hT:HT gl):CE PP (rhoS gl) B 432 ta27 := AX Ae.no (Ae.fn e433) (Ae.fn e434) (Ae.fn e435) (Ae.fn e436) (Ae.fn e437) (Ae.fn e438) (Ae.fn e439) (Ae.fn e440) Ae.no Ae.no (Ae.fn e443) (Ae.noP _) (Ae.noP _) (Ae.noP _) (Ae.noP _)
noncomputable def ta28:FA := .mk (some (.prim (B5 ""))) (some x449) (some (.prim (B5 ""))) (some (.prim (B5 ""))) (some (.prim (B5 ""))) (some (.prim (B5 ""))) (some (.prim (B5 ""))) (some (.prim (B5 ""))) (some x456) (some x457) (some x458) (some x459) none (some (.prim Ed)) (some x462) (some x463)
theorem oa28 {gl:CJ} (hT:HT gl):CE PP (rhoS gl) B 448 ta28 := AX (Ae.noP _) (Ae.fn e449) (Ae.noP _) (Ae.noP _) (Ae.noP _) (Ae.noP _) (Ae.noP _) (Ae.noP _) (Ae.fn e456) (Ae.fn e457) (Ae.fn e458) (Ae.fn e459) Ae.no (Ae.pr (@Fb Go.Proofs.Tryz.prog (rhoS gl) B 461 bare461)) (Ae.fn e462) (Ae.fn e463)
noncomputable def ta29:FA := .mk none none none none (some x468) none (some x470) none (some x472) none none none none none none none
theorem oa29 {gl:CJ} (hT:HT gl):CE PP (rhoS gl) B 464 ta29 := AX Ae.no Ae.no Ae.no Ae.no (Ae.fn e468) Ae.no (Ae.apE (Cd.gl e470)) Ae.no (Ae.fn e472) Ae.no Ae.no Ae.no Ae.no Ae.no Ae.no Ae.no
noncomputable def ta30:FA := .mk none (some x481) (some x482) (some x483) (some x484) (some x485) none none none none (some (.prim (B5 ""))) none (some (.prim DX)) (some (.prim (B5 ""))) (some (.prim (B5 ""))) none
theorem oa30 {gl:CJ} (hT:HT gl):CE PP (rhoS gl) B 480 ta30 := AX Ae.no (Ae.fn e481) (Ae.fn e482) (Ae.fn e483) (Ae.fn e484) (Ae.fn e485) Ae.no Ae.no Ae.no Ae.no (Ae.noP _) Ae.no (Ae.pr (@Hj Go.Proofs.Tryz.prog (rhoS gl) B 492 bare492)) (Ae.noP _) (Ae.noP _) Ae.no
noncomputable def ta31:FA := .mk none none none none none none none none none none none none none (some x509) none none
theorem oa31 {gl:CJ} (hT:HT gl):CE PP (rhoS gl) B 496 ta31 := AX Ae.no Ae.no Ae.no Ae.no Ae.no Ae.no Ae.no Ae.no Ae.no Ae.no Ae.no Ae.no Ae.no (Ae.fn e509) Ae.no Ae.no
noncomputable def tb0:FB := .mk ta0 ta1 ta2 ta3 ta4 ta5 ta6 ta7 ta8 ta9 ta10 ta11 ta12 ta13 ta14 ta15
theorem ob0 {gl:CJ} (hT:HT gl):LY PP (rhoS gl) B 0 tb0 := OA (oa0 hT) (oa1 hT) (oa2 hT) (oa3 hT) (oa4 hT) (oa5 hT) (oa6 hT) (oa7 hT) (oa8 hT) (oa9 hT) (oa10 hT) (oa11 hT) (oa12 hT) (oa13 hT) (oa14 hT) (oa15 hT)
noncomputable def tb1:FB := .mk ta16 ta17 ta18 ta19 ta20 ta21 ta22 ta23 ta24 ta25 ta26 ta27 ta28 ta29 ta30 ta31
theorem ob1 {gl:CJ} (hT:HT gl):LY PP (rhoS gl) B 256 tb1 := OA (oa16 hT) (oa17 hT) (oa18 hT) (oa19 hT) (oa20 hT) (oa21 hT) (oa22 hT) (oa23 hT) (oa24 hT) (oa25 hT) (oa26 hT) (oa27 hT) (oa28 hT) (oa29 hT) (oa30 hT) (oa31 hT)
noncomputable def tab:FC := .mk tb0 tb1 HV HV HV HV HV HV HV HV HV HV HV HV HV HV
theorem tab_ok {gl:CJ} (hT:HT gl) (B:Nat):GI Go.Proofs.Tryz.prog (rhoS gl) B tab := .mkG (Uk (ob0 hT) (ob1 hT) BR BR BR BR BR BR BR BR BR BR BR BR BR) (Fo ⟨x166, by kernel_rfl, Cd.gl e166⟩ (Fo ⟨x268, by kernel_rfl, Cd.gl e268⟩ (Fo ⟨x389, by kernel_rfl, Cd.gl e389⟩ (Fo ⟨x470, by kernel_rfl, Cd.gl e470⟩ U4))))
end Z
end Go.Ev.YtnacbbemgocmcaaGreatDoor
