/- The table of the functions. -/
import Derived.Test.YthjkpfnkahfdgaaDoorF0
import Derived.Test.YthjkpfnkahfdgaaDoorEv4
import Derived.Test.YthjkpfnkahfdgaaDoorEv4
import Derived.KernelRfl
namespace Go.Ev.YthjkpfnkahfdgaaDoor
open Go Go.Ev
set_option linter.unusedVariables false
set_option maxRecDepth 100000

theorem bare47 : Bare Go.Proofs.Tryd.prog 47 Extern.BytealgCount.count := ⟨Go.Proofs.Tryd.f47, Go.Proofs.Tryd.func47, by kernel_rfl, by kernel_rfl, by kernel_rfl, by kernel_rfl⟩
theorem bare48 : Bare Go.Proofs.Tryd.prog 48 Extern.BytealgIndexByte.indexByte := ⟨Go.Proofs.Tryd.f48, Go.Proofs.Tryd.func48, by kernel_rfl, by kernel_rfl, by kernel_rfl, by kernel_rfl⟩
def nren : Shelf.Ren := { f := fun x => match x with | 129 => 56 | 284 => 50 | 317 => 55 | 318 => 57 | _ => 0, t := fun x => match x with | 0 => 0 | 3 => 3 | 4 => 4 | 5 => 5 | 9 => 9 | 46 => 53 | 53 => 58 | 212 => 67 | _ => 0, g := fun _ => 1 }
theorem nlay : Go.Proofs.LaysM.n284 Go.Proofs.Tryd.prog nren where
  mixed := by kernel_rfl
  f129 := Go.Proofs.Tryd.func56.trans (by kernel_rfl)
  f284 := Go.Proofs.Tryd.func50.trans (by kernel_rfl)
  f317 := Go.Proofs.Tryd.func55.trans (by kernel_rfl)
  f318 := Go.Proofs.Tryd.func57.trans (by kernel_rfl)
  t0 := Go.Proofs.Tryd.underlying0
  a0 := Go.Proofs.Tryd.isAgg0
  z0 := Go.Proofs.Tryd.sizeOf0
  v0 := Go.Proofs.Tryd.zeroValue0
  i0 := by kernel_rfl
  t3 := Go.Proofs.Tryd.underlying3
  a3 := Go.Proofs.Tryd.isAgg3
  z3 := Go.Proofs.Tryd.sizeOf3
  v3 := Go.Proofs.Tryd.zeroValue3
  i3 := by kernel_rfl
  t4 := Go.Proofs.Tryd.underlying4
  a4 := Go.Proofs.Tryd.isAgg4
  z4 := Go.Proofs.Tryd.sizeOf4
  v4 := Go.Proofs.Tryd.zeroValue4
  i4 := by kernel_rfl
  t5 := Go.Proofs.Tryd.underlying5
  a5 := Go.Proofs.Tryd.isAgg5
  z5 := Go.Proofs.Tryd.sizeOf5
  v5 := Go.Proofs.Tryd.zeroValue5
  i5 := by kernel_rfl
  t9 := Go.Proofs.Tryd.underlying9
  a9 := Go.Proofs.Tryd.isAgg9
  z9 := Go.Proofs.Tryd.sizeOf9
  v9 := Go.Proofs.Tryd.zeroValue9
  i9 := by kernel_rfl
  t46 := Go.Proofs.Tryd.underlying53
  a46 := Go.Proofs.Tryd.isAgg53
  z46 := Go.Proofs.Tryd.sizeOf53
  v46 := Go.Proofs.Tryd.zeroValue53
  i46 := by kernel_rfl
  t53 := Go.Proofs.Tryd.underlying58
  a53 := Go.Proofs.Tryd.isAgg58
  z53 := Go.Proofs.Tryd.sizeOf58
  v53 := Go.Proofs.Tryd.zeroValue58
  i53 := by kernel_rfl
  t212 := Go.Proofs.Tryd.underlying67
  a212 := Go.Proofs.Tryd.isAgg67
  z212 := Go.Proofs.Tryd.sizeOf67
  v212 := Go.Proofs.Tryd.zeroValue67
  i212 := by kernel_rfl
  g17 := by kernel_rfl
  m17 := by kernel_rfl
theorem digits50 : DigitsFn Go.Proofs.Tryd.prog 50 := fun u h1 h2 w ht => Go.Proofs.Any.internal_strconv_numDigits nlay u h1 h2 w ht
def iren : Shelf.Ren := { f := fun x => match x with | 217 => 39 | 219 => 35 | 224 => 43 | 225 => 42 | 266 => 48 | 267 => 44 | 314 => 53 | _ => 0, t := fun x => match x with | 3 => 3 | 4 => 4 | 5 => 5 | 9 => 9 | 46 => 53 | 51 => 63 | 146 => 64 | _ => 0, g := fun x => match x with | 1 => 0 | _ => 0 }
theorem ilay : Go.Proofs.Lays.n219 Go.Proofs.Tryd.prog iren where
  mixed := by kernel_rfl
  f217 := Go.Proofs.Tryd.func39.trans (by kernel_rfl)
  f219 := Go.Proofs.Tryd.func35.trans (by kernel_rfl)
  f224 := Go.Proofs.Tryd.func43.trans (by kernel_rfl)
  f225 := Go.Proofs.Tryd.func42.trans (by kernel_rfl)
  f266 := Go.Proofs.Tryd.func48.trans (by kernel_rfl)
  f267 := Go.Proofs.Tryd.func44.trans (by kernel_rfl)
  f314 := Go.Proofs.Tryd.func53.trans (by kernel_rfl)
  t3 := Go.Proofs.Tryd.underlying3
  a3 := Go.Proofs.Tryd.isAgg3
  z3 := Go.Proofs.Tryd.sizeOf3
  v3 := Go.Proofs.Tryd.zeroValue3
  t4 := Go.Proofs.Tryd.underlying4
  a4 := Go.Proofs.Tryd.isAgg4
  z4 := Go.Proofs.Tryd.sizeOf4
  v4 := Go.Proofs.Tryd.zeroValue4
  t5 := Go.Proofs.Tryd.underlying5
  a5 := Go.Proofs.Tryd.isAgg5
  z5 := Go.Proofs.Tryd.sizeOf5
  v5 := Go.Proofs.Tryd.zeroValue5
  t9 := Go.Proofs.Tryd.underlying9
  a9 := Go.Proofs.Tryd.isAgg9
  z9 := Go.Proofs.Tryd.sizeOf9
  v9 := Go.Proofs.Tryd.zeroValue9
  t46 := Go.Proofs.Tryd.underlying53
  a46 := Go.Proofs.Tryd.isAgg53
  z46 := Go.Proofs.Tryd.sizeOf53
  v46 := Go.Proofs.Tryd.zeroValue53
  t51 := Go.Proofs.Tryd.underlying63
  a51 := Go.Proofs.Tryd.isAgg63
  z51 := Go.Proofs.Tryd.sizeOf63
  v51 := Go.Proofs.Tryd.zeroValue63
  t146 := Go.Proofs.Tryd.underlying64
  a146 := Go.Proofs.Tryd.isAgg64
  z146 := Go.Proofs.Tryd.sizeOf64
  v146 := Go.Proofs.Tryd.zeroValue64
  g1 := by kernel_rfl

theorem index35 : IndexFn Go.Proofs.Tryd.prog 35 0 := fun s sub m w h1 h2 => Go.Proofs.Any.stringslite_Index ilay s sub m w h1 h2
noncomputable abbrev rhoS (gl : GlF) : Env := envGl Go.Proofs.Tryd.prog [] gl
theorem oneS {gl : GlF} : OneSym (rhoS gl) := oneGl
abbrev HT (gl : GlF) : Prop := TabG PP gl "internal/strconv.uint64pow10" .u64 Lib.pow10Tab ∧ NumG gl 0
variable {B : Nat}
noncomputable def ta0 : FA := .mk none none none none (some x4) none none none (some x8) none none none none (some x13) (some x14) none
theorem oa0 {gl : GlF} (hT : HT gl) : OKA PP (rhoS gl) B 0 ta0 := okA_mk OKO.no OKO.no OKO.no OKO.no (OKO.fn e4) OKO.no OKO.no OKO.no (OKO.fn e8) OKO.no OKO.no OKO.no OKO.no (OKO.fn e13) (OKO.fn e14) OKO.no
noncomputable def ta1 : FA := .mk none (some x17) (some x18) (some x19) (some x20) (some x21) (some x22) none (some x24) (some x25) none (some x27) (some x28) (some x29) (some x30) (some x31)
theorem oa1 {gl : GlF} (hT : HT gl) : OKA PP (rhoS gl) B 16 ta1 := okA_mk OKO.no (OKO.fn e17) (OKO.fn e18) (OKO.fn e19) (OKO.fn e20) (OKO.fn e21) (OKO.fn e22) OKO.no (OKO.fn e24) (OKO.fn e25) OKO.no (OKO.fn e27) (OKO.fn e28) (OKO.fn e29) (OKO.fn e30) (OKO.fn e31)
noncomputable def ta2 : FA := .mk (some x32) (some x33) (some x34) (some (.prim pIndex)) (some x36) (some x37) (some x38) (some x39) (some x40) (some x41) none none none (some x45) (some x46) (some (.prim pCountString))
theorem oa2 {gl : GlF} (hT : HT gl) : OKA PP (rhoS gl) B 32 ta2 := okA_mk (OKO.fn e32) (OKO.fn e33) (OKO.fn e34) (OKO.pr (@index_ok Go.Proofs.Tryd.prog (rhoS gl) B 35 Go.Proofs.Tryd.f35 gl 0 Go.Proofs.Tryd.func35 (by kernel_rfl) (by kernel_rfl) index35 rfl hT.2)) (OKO.fn e36) (OKO.fn e37) (OKO.fn e38) (OKO.fn e39) (OKO.fn e40) (OKO.fn e41) OKO.no OKO.no OKO.no (OKO.fn e45) (OKO.fn e46) (OKO.pr (@countString_ok Go.Proofs.Tryd.prog (rhoS gl) B 47 bare47))
noncomputable def ta3 : FA := .mk (some (.prim pIndexByteString)) (some x49) (some (.prim pDigits)) (some x51) (some x52) none (some x54) none none none (some x58) (some x59) (some x60) (some x61) none none
theorem oa3 {gl : GlF} (hT : HT gl) : OKA PP (rhoS gl) B 48 ta3 := okA_mk (OKO.pr (@indexByteString_ok Go.Proofs.Tryd.prog (rhoS gl) B 48 bare48)) (OKO.fn e49) (OKO.pr (@digits_ok Go.Proofs.Tryd.prog (rhoS gl) B 50 Go.Proofs.Tryd.f50 gl Go.Proofs.Tryd.func50 (by kernel_rfl) (by kernel_rfl) digits50 rfl hT.1)) (OKO.fn e51) (OKO.fn e52) OKO.no (OKO.fn e54) OKO.no OKO.no OKO.no (OKO.fn e58) (OKO.fn e59) (OKO.fn e60) (OKO.fn e61) OKO.no OKO.no
noncomputable def tb0 : FB := .mk ta0 ta1 ta2 ta3 noA noA noA noA noA noA noA noA noA noA noA noA
theorem ob0 {gl : GlF} (hT : HT gl) : OKB PP (rhoS gl) B 0 tb0 := okB_mk (oa0 hT) (oa1 hT) (oa2 hT) (oa3 hT) okA_no okA_no okA_no okA_no okA_no okA_no okA_no okA_no okA_no okA_no okA_no okA_no
noncomputable def tab : FC := .mk tb0 noB noB noB noB noB noB noB noB noB noB noB noB noB noB noB
theorem tab_ok {gl : GlF} (hT : HT gl) (B : Nat) : TabOK Go.Proofs.Tryd.prog (rhoS gl) B tab := .mkG (okC_mk (ob0 hT) okB_no okB_no okB_no okB_no okB_no okB_no okB_no okB_no okB_no okB_no okB_no okB_no okB_no okB_no) ha_nil
end Go.Ev.YthjkpfnkahfdgaaDoor
