/- The table of the functions. -/
import Derived.Test.YtddknjmlhbeabaaGreatDoorF0
import Derived.Test.YtddknjmlhbeabaaGreatDoorF1
import Derived.Test.YtddknjmlhbeabaaGreatDoorEv4
import Derived.KernelRfl
namespace Go.Ev.YtddknjmlhbeabaaGreatDoor
open Go Go.Ev
set_option linter.unusedVariables false
set_option maxRecDepth 100000

theorem bare78 : Bare Go.Proofs.Tryz.prog 78 Extern.MapsClone.clone := ⟨Go.Proofs.Tryz.f78, Go.Proofs.Tryz.func78, by kernel_rfl, by kernel_rfl, by kernel_rfl, by kernel_rfl⟩
def nren : Shelf.Ren := { f := fun x => match x with | 129 => 183 | 284 => 170 | 317 => 229 | 318 => 230 | _ => 0, t := fun x => match x with | 0 => 0 | 3 => 3 | 4 => 4 | 5 => 5 | 9 => 9 | 46 => 225 | 53 => 32 | 212 => 328 | _ => 0, g := fun _ => 0 }
theorem nlay : Go.Proofs.LaysM.n284 Go.Proofs.Tryz.prog nren where
  mixed := by kernel_rfl
  f129 := Go.Proofs.Tryz.func183.trans (by kernel_rfl)
  f284 := Go.Proofs.Tryz.func170.trans (by kernel_rfl)
  f317 := Go.Proofs.Tryz.func229.trans (by kernel_rfl)
  f318 := Go.Proofs.Tryz.func230.trans (by kernel_rfl)
  t0 := Go.Proofs.Tryz.underlying0
  a0 := Go.Proofs.Tryz.isAgg0
  z0 := Go.Proofs.Tryz.sizeOf0
  v0 := Go.Proofs.Tryz.zeroValue0
  i0 := by kernel_rfl
  t3 := Go.Proofs.Tryz.underlying3
  a3 := Go.Proofs.Tryz.isAgg3
  z3 := Go.Proofs.Tryz.sizeOf3
  v3 := Go.Proofs.Tryz.zeroValue3
  i3 := by kernel_rfl
  t4 := Go.Proofs.Tryz.underlying4
  a4 := Go.Proofs.Tryz.isAgg4
  z4 := Go.Proofs.Tryz.sizeOf4
  v4 := Go.Proofs.Tryz.zeroValue4
  i4 := by kernel_rfl
  t5 := Go.Proofs.Tryz.underlying5
  a5 := Go.Proofs.Tryz.isAgg5
  z5 := Go.Proofs.Tryz.sizeOf5
  v5 := Go.Proofs.Tryz.zeroValue5
  i5 := by kernel_rfl
  t9 := Go.Proofs.Tryz.underlying9
  a9 := Go.Proofs.Tryz.isAgg9
  z9 := Go.Proofs.Tryz.sizeOf9
  v9 := Go.Proofs.Tryz.zeroValue9
  i9 := by kernel_rfl
  t46 := Go.Proofs.Tryz.underlying225
  a46 := Go.Proofs.Tryz.isAgg225
  z46 := Go.Proofs.Tryz.sizeOf225
  v46 := Go.Proofs.Tryz.zeroValue225
  i46 := by kernel_rfl
  t53 := Go.Proofs.Tryz.underlying32
  a53 := Go.Proofs.Tryz.isAgg32
  z53 := Go.Proofs.Tryz.sizeOf32
  v53 := Go.Proofs.Tryz.zeroValue32
  i53 := by kernel_rfl
  t212 := Go.Proofs.Tryz.underlying328
  a212 := Go.Proofs.Tryz.isAgg328
  z212 := Go.Proofs.Tryz.sizeOf328
  v212 := Go.Proofs.Tryz.zeroValue328
  i212 := by kernel_rfl
  g17 := by kernel_rfl
  m17 := by kernel_rfl
theorem digits170 : DigitsFn Go.Proofs.Tryz.prog 170 := fun u h1 h2 w ht => Go.Proofs.Any.internal_strconv_numDigits nlay u h1 h2 w ht
noncomputable abbrev rhoS (gl : GlF) : Env := envGl Go.Proofs.Tryz.prog [128, 131] gl
theorem oneS {gl : GlF} : OneSym (rhoS gl) := oneGl
abbrev HT (gl : GlF) : Prop := TabG PP gl "internal/strconv.uint64pow10" .u64 Lib.pow10Tab
variable {B : Nat}
noncomputable def ta0 : FA := .mk none none none (some x3) none (some x5) (some x6) (some x7) (some x8) (some x9) (some x10) (some x11) (some x12) (some x13) (some x14) none
theorem oa0 {gl : GlF} (hT : HT gl) : OKA PP (rhoS gl) B 0 ta0 := okA_mk OKO.no OKO.no OKO.no (OKO.fn e3) OKO.no (OKO.fn e5) (OKO.fn e6) (OKO.fn e7) (OKO.fn e8) (OKO.fn e9) (OKO.fn e10) (OKO.fn e11) (OKO.fn e12) (OKO.fn e13) (OKO.fn e14) OKO.no
noncomputable def ta1 : FA := .mk none none none none none none none none (some x24) (some x25) (some x26) (some x27) (some x28) (some x29) (some x30) (some x31)
theorem oa1 {gl : GlF} (hT : HT gl) : OKA PP (rhoS gl) B 16 ta1 := okA_mk OKO.no OKO.no OKO.no OKO.no OKO.no OKO.no OKO.no OKO.no (OKO.fn e24) (OKO.fn e25) (OKO.fn e26) (OKO.fn e27) (OKO.fn e28) (OKO.fn e29) (OKO.fn e30) (OKO.fn e31)
noncomputable def ta2 : FA := .mk (some x32) (some (.prim pClone)) (some x34) (some (x35.toBr 400)) (some x36) (some x37) (some (x38.toBr 400)) (some x39) (some (.prim (noFn "function 40"))) (some x41) (some x42) none none none none none
theorem oa2 {gl : GlF} (hT : HT gl) : OKA PP (rhoS gl) B 32 ta2 := okA_mk (OKO.fn e32) (OKO.pr (clone_ok (g := 78) (by kernel_rfl) bare78)) (OKO.fn e34) (OKO.brX e35 ⟨_, _, _, rfl⟩) (OKO.fn e36) (OKO.fn e37) (OKO.brX e38 ⟨_, _, _, rfl⟩) (OKO.fn e39) (OKO.noP _) (OKO.fn e41) (OKO.fn e42) OKO.no OKO.no OKO.no OKO.no OKO.no
noncomputable def ta3 : FA := .mk none none none none none none none none none none none none none none none none
theorem oa3 {gl : GlF} (hT : HT gl) : OKA PP (rhoS gl) B 48 ta3 := okA_mk OKO.no OKO.no OKO.no OKO.no OKO.no OKO.no OKO.no OKO.no OKO.no OKO.no OKO.no OKO.no OKO.no OKO.no OKO.no OKO.no
noncomputable def ta4 : FA := .mk none none none (some x67) (some x68) (some x69) (some x70) (some x71) (some x72) (some x73) (some x74) (some x75) (some x76) (some x77) none (some x79)
theorem oa4 {gl : GlF} (hT : HT gl) : OKA PP (rhoS gl) B 64 ta4 := okA_mk OKO.no OKO.no OKO.no (OKO.fn e67) (OKO.fn e68) (OKO.fn e69) (OKO.fn e70) (OKO.fn e71) (OKO.fn e72) (OKO.fn e73) (OKO.fn e74) (OKO.fn e75) (OKO.fn e76) (OKO.fn e77) OKO.no (OKO.fn e79)
noncomputable def ta5 : FA := .mk (some x80) (some x81) (some x82) (some x83) (some x84) (some x85) (some x86) none none none none none none none none none
theorem oa5 {gl : GlF} (hT : HT gl) : OKA PP (rhoS gl) B 80 ta5 := okA_mk (OKO.fn e80) (OKO.fn e81) (OKO.fn e82) (OKO.fn e83) (OKO.fn e84) (OKO.fn e85) (OKO.fn e86) OKO.no OKO.no OKO.no OKO.no OKO.no OKO.no OKO.no OKO.no OKO.no
noncomputable def ta6 : FA := .mk none none none none none none none none (some x104) none none none none none none none
theorem oa6 {gl : GlF} (hT : HT gl) : OKA PP (rhoS gl) B 96 ta6 := okA_mk OKO.no OKO.no OKO.no OKO.no OKO.no OKO.no OKO.no OKO.no (OKO.fn e104) OKO.no OKO.no OKO.no OKO.no OKO.no OKO.no OKO.no
noncomputable def ta7 : FA := .mk none none none none none none none none none none none none none none (some x126) (some x127)
theorem oa7 {gl : GlF} (hT : HT gl) : OKA PP (rhoS gl) B 112 ta7 := okA_mk OKO.no OKO.no OKO.no OKO.no OKO.no OKO.no OKO.no OKO.no OKO.no OKO.no OKO.no OKO.no OKO.no OKO.no (OKO.fn e126) (OKO.fn e127)
noncomputable def ta8 : FA := .mk (some x128) (some x129) (some x130) (some x131) (some x132) none none none none none none none none none none none
theorem oa8 {gl : GlF} (hT : HT gl) : OKA PP (rhoS gl) B 128 ta8 := okA_mk (OKO.apE (ApEnt.gl e128)) (OKO.fn e129) (OKO.fn e130) (OKO.apE (ApEnt.gl e131)) (OKO.fn e132) OKO.no OKO.no OKO.no OKO.no OKO.no OKO.no OKO.no OKO.no OKO.no OKO.no OKO.no
noncomputable def ta9 : FA := .mk none none none none none none none none none none none none none none none none
theorem oa9 {gl : GlF} (hT : HT gl) : OKA PP (rhoS gl) B 144 ta9 := okA_mk OKO.no OKO.no OKO.no OKO.no OKO.no OKO.no OKO.no OKO.no OKO.no OKO.no OKO.no OKO.no OKO.no OKO.no OKO.no OKO.no
noncomputable def ta10 : FA := .mk none none none none none none none none none (some x169) (some (.prim pDigits)) (some x171) (some (.prim (noFn "function 172"))) (some x173) (some (.prim (noFn "function 174"))) (some (.prim (noFn "function 175")))
theorem oa10 {gl : GlF} (hT : HT gl) : OKA PP (rhoS gl) B 160 ta10 := okA_mk OKO.no OKO.no OKO.no OKO.no OKO.no OKO.no OKO.no OKO.no OKO.no (OKO.fn e169) (OKO.pr (@digits_ok Go.Proofs.Tryz.prog (rhoS gl) B 170 Go.Proofs.Tryz.f170 gl Go.Proofs.Tryz.func170 (by kernel_rfl) (by kernel_rfl) digits170 rfl hT)) (OKO.fn e171) (OKO.noP _) (OKO.fn e173) (OKO.noP _) (OKO.noP _)
noncomputable def ta11 : FA := .mk (some (.prim (noFn "function 176"))) (some (.prim (noFn "function 177"))) (some (.prim (noFn "function 178"))) (some x179) (some (.prim (noFn "function 180"))) (some (.prim (noFn "function 181"))) (some x182) (some x183) (some x184) (some (.prim (noFn "function 185"))) (some (.prim (noFn "function 186"))) (some (.prim (noFn "function 187"))) (some (.prim (noFn "function 188"))) (some (.prim (noFn "function 189"))) (some x190) (some (.prim (noFn "function 191")))
theorem oa11 {gl : GlF} (hT : HT gl) : OKA PP (rhoS gl) B 176 ta11 := okA_mk (OKO.noP _) (OKO.noP _) (OKO.noP _) (OKO.fn e179) (OKO.noP _) (OKO.noP _) (OKO.fn e182) (OKO.fn e183) (OKO.fn e184) (OKO.noP _) (OKO.noP _) (OKO.noP _) (OKO.noP _) (OKO.noP _) (OKO.fn e190) (OKO.noP _)
noncomputable def ta12 : FA := .mk (some (.prim (noFn "function 192"))) none none none none none none none none none none none none none none none
theorem oa12 {gl : GlF} (hT : HT gl) : OKA PP (rhoS gl) B 192 ta12 := okA_mk (OKO.noP _) OKO.no OKO.no OKO.no OKO.no OKO.no OKO.no OKO.no OKO.no OKO.no OKO.no OKO.no OKO.no OKO.no OKO.no OKO.no
noncomputable def ta13 : FA := .mk none none none none none none none none none none none none none none none none
theorem oa13 {gl : GlF} (hT : HT gl) : OKA PP (rhoS gl) B 208 ta13 := okA_mk OKO.no OKO.no OKO.no OKO.no OKO.no OKO.no OKO.no OKO.no OKO.no OKO.no OKO.no OKO.no OKO.no OKO.no OKO.no OKO.no
noncomputable def ta14 : FA := .mk none none none none none none none none none none none none none none (some x238) none
theorem oa14 {gl : GlF} (hT : HT gl) : OKA PP (rhoS gl) B 224 ta14 := okA_mk OKO.no OKO.no OKO.no OKO.no OKO.no OKO.no OKO.no OKO.no OKO.no OKO.no OKO.no OKO.no OKO.no OKO.no (OKO.fn e238) OKO.no
noncomputable def ta15 : FA := .mk none none (some x242) none none none none none none none none none none none none none
theorem oa15 {gl : GlF} (hT : HT gl) : OKA PP (rhoS gl) B 240 ta15 := okA_mk OKO.no OKO.no (OKO.fn e242) OKO.no OKO.no OKO.no OKO.no OKO.no OKO.no OKO.no OKO.no OKO.no OKO.no OKO.no OKO.no OKO.no
noncomputable def tb0 : FB := .mk ta0 ta1 ta2 ta3 ta4 ta5 ta6 ta7 ta8 ta9 ta10 ta11 ta12 ta13 ta14 ta15
theorem ob0 {gl : GlF} (hT : HT gl) : OKB PP (rhoS gl) B 0 tb0 := okB_mk (oa0 hT) (oa1 hT) (oa2 hT) (oa3 hT) (oa4 hT) (oa5 hT) (oa6 hT) (oa7 hT) (oa8 hT) (oa9 hT) (oa10 hT) (oa11 hT) (oa12 hT) (oa13 hT) (oa14 hT) (oa15 hT)
noncomputable def tab : FC := .mk tb0 noB noB noB noB noB noB noB noB noB noB noB noB noB noB noB
theorem tab_ok {gl : GlF} (hT : HT gl) (B : Nat) : TabOK Go.Proofs.Tryz.prog (rhoS gl) B tab := .mkG (okC_mk (ob0 hT) okB_no okB_no okB_no okB_no okB_no okB_no okB_no okB_no okB_no okB_no okB_no okB_no okB_no okB_no) (ha_cons ⟨x128, by kernel_rfl, ApEnt.gl e128⟩ (ha_cons ⟨x131, by kernel_rfl, ApEnt.gl e131⟩ ha_nil))
end Go.Ev.YtddknjmlhbeabaaGreatDoor
