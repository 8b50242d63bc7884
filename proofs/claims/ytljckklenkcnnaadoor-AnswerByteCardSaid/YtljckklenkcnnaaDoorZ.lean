/- The table of the functions. -/
import Derived.Test.YtljckklenkcnnaaDoorF0
import Derived.Test.YtljckklenkcnnaaDoorEv4
import Derived.KernelRfl
namespace Go.Ev.YtljckklenkcnnaaDoor
open Go Go.Ev
set_option linter.unusedVariables false
set_option maxRecDepth 100000

theorem bare64 : Bare Go.Proofs.Tryd.prog 64 Extern.BytealgCount.count := ⟨Go.Proofs.Tryd.f64, Go.Proofs.Tryd.func64, by kernel_rfl, by kernel_rfl, by kernel_rfl, by kernel_rfl⟩
theorem bare65 : Bare Go.Proofs.Tryd.prog 65 Extern.BytealgIndexByte.indexByte := ⟨Go.Proofs.Tryd.f65, Go.Proofs.Tryd.func65, by kernel_rfl, by kernel_rfl, by kernel_rfl, by kernel_rfl⟩
def nren : Shelf.Ren := { f := fun x => match x with | 129 => 67 | 284 => 56 | 317 => 66 | 318 => 68 | _ => 0, t := fun x => match x with | 0 => 0 | 3 => 3 | 4 => 4 | 5 => 5 | 9 => 9 | 46 => 72 | 53 => 66 | 212 => 77 | _ => 0, g := fun _ => 1 }
theorem nlay : Go.Proofs.LaysM.n284 Go.Proofs.Tryd.prog nren where
  mixed := by kernel_rfl
  f129 := Go.Proofs.Tryd.func67.trans (by kernel_rfl)
  f284 := Go.Proofs.Tryd.func56.trans (by kernel_rfl)
  f317 := Go.Proofs.Tryd.func66.trans (by kernel_rfl)
  f318 := Go.Proofs.Tryd.func68.trans (by kernel_rfl)
  t0 := Go.Proofs.Tryd.underlying0
  a0 := Go.Proofs.Tryd.isAgg0
  z0 := Go.Proofs.Tryd.sizeOf0
  v0 := Go.Proofs.Tryd.zeroValue0
  i0 := by kernel_rfl
  t3 := Go.Proofs.Tryd.underlying3
  a3 := Go.Proofs.Tryd.isAgg3
  z3 := Go.Proofs.Tryd.sizeOf3
  v3 := Go.Proofs.Tryd.zeroValue3
  i3 := by kernel_rfl
  t4 := Go.Proofs.Tryd.underlying4
  a4 := Go.Proofs.Tryd.isAgg4
  z4 := Go.Proofs.Tryd.sizeOf4
  v4 := Go.Proofs.Tryd.zeroValue4
  i4 := by kernel_rfl
  t5 := Go.Proofs.Tryd.underlying5
  a5 := Go.Proofs.Tryd.isAgg5
  z5 := Go.Proofs.Tryd.sizeOf5
  v5 := Go.Proofs.Tryd.zeroValue5
  i5 := by kernel_rfl
  t9 := Go.Proofs.Tryd.underlying9
  a9 := Go.Proofs.Tryd.isAgg9
  z9 := Go.Proofs.Tryd.sizeOf9
  v9 := Go.Proofs.Tryd.zeroValue9
  i9 := by kernel_rfl
  t46 := Go.Proofs.Tryd.underlying72
  a46 := Go.Proofs.Tryd.isAgg72
  z46 := Go.Proofs.Tryd.sizeOf72
  v46 := Go.Proofs.Tryd.zeroValue72
  i46 := by kernel_rfl
  t53 := Go.Proofs.Tryd.underlying66
  a53 := Go.Proofs.Tryd.isAgg66
  z53 := Go.Proofs.Tryd.sizeOf66
  v53 := Go.Proofs.Tryd.zeroValue66
  i53 := by kernel_rfl
  t212 := Go.Proofs.Tryd.underlying77
  a212 := Go.Proofs.Tryd.isAgg77
  z212 := Go.Proofs.Tryd.sizeOf77
  v212 := Go.Proofs.Tryd.zeroValue77
  i212 := by kernel_rfl
  g17 := by kernel_rfl
  m17 := by kernel_rfl
theorem digits56 : DigitsFn Go.Proofs.Tryd.prog 56 := fun u h1 h2 w ht => Go.Proofs.Any.internal_strconv_numDigits nlay u h1 h2 w ht
def iren : Shelf.Ren := { f := fun x => match x with | 217 => 54 | 219 => 50 | 224 => 60 | 225 => 59 | 266 => 65 | 267 => 61 | 314 => 71 | _ => 0, t := fun x => match x with | 3 => 3 | 4 => 4 | 5 => 5 | 9 => 9 | 46 => 72 | 51 => 78 | 146 => 82 | _ => 0, g := fun x => match x with | 1 => 0 | _ => 0 }
theorem ilay : Go.Proofs.Lays.n219 Go.Proofs.Tryd.prog iren where
  mixed := by kernel_rfl
  f217 := Go.Proofs.Tryd.func54.trans (by kernel_rfl)
  f219 := Go.Proofs.Tryd.func50.trans (by kernel_rfl)
  f224 := Go.Proofs.Tryd.func60.trans (by kernel_rfl)
  f225 := Go.Proofs.Tryd.func59.trans (by kernel_rfl)
  f266 := Go.Proofs.Tryd.func65.trans (by kernel_rfl)
  f267 := Go.Proofs.Tryd.func61.trans (by kernel_rfl)
  f314 := Go.Proofs.Tryd.func71.trans (by kernel_rfl)
  t3 := Go.Proofs.Tryd.underlying3
  a3 := Go.Proofs.Tryd.isAgg3
  z3 := Go.Proofs.Tryd.sizeOf3
  v3 := Go.Proofs.Tryd.zeroValue3
  t4 := Go.Proofs.Tryd.underlying4
  a4 := Go.Proofs.Tryd.isAgg4
  z4 := Go.Proofs.Tryd.sizeOf4
  v4 := Go.Proofs.Tryd.zeroValue4
  t5 := Go.Proofs.Tryd.underlying5
  a5 := Go.Proofs.Tryd.isAgg5
  z5 := Go.Proofs.Tryd.sizeOf5
  v5 := Go.Proofs.Tryd.zeroValue5
  t9 := Go.Proofs.Tryd.underlying9
  a9 := Go.Proofs.Tryd.isAgg9
  z9 := Go.Proofs.Tryd.sizeOf9
  v9 := Go.Proofs.Tryd.zeroValue9
  t46 := Go.Proofs.Tryd.underlying72
  a46 := Go.Proofs.Tryd.isAgg72
  z46 := Go.Proofs.Tryd.sizeOf72
  v46 := Go.Proofs.Tryd.zeroValue72
  t51 := Go.Proofs.Tryd.underlying78
  a51 := Go.Proofs.Tryd.isAgg78
  z51 := Go.Proofs.Tryd.sizeOf78
  v51 := Go.Proofs.Tryd.zeroValue78
  t146 := Go.Proofs.Tryd.underlying82
  a146 := Go.Proofs.Tryd.isAgg82
  z146 := Go.Proofs.Tryd.sizeOf82
  v146 := Go.Proofs.Tryd.zeroValue82
  g1 := by kernel_rfl

theorem index50 : IndexFn Go.Proofs.Tryd.prog 50 0 := fun s sub m w h1 h2 => Go.Proofs.Any.stringslite_Index ilay s sub m w h1 h2
noncomputable abbrev rhoS (gl : GlF) : Env := envGl Go.Proofs.Tryd.prog [] gl
theorem oneS {gl : GlF} : OneSym (rhoS gl) := oneGl
abbrev HT (gl : GlF) : Prop := TabG PP gl "internal/strconv.uint64pow10" .u64 Lib.pow10Tab ∧ NumG gl 0
variable {B : Nat}
namespace Z
noncomputable def ta0 : FA := .mk none none none none (some x4) (some x5) none none none none none none (some x12) (some x13) (some x14) (some x15)
theorem oa0 {gl : GlF} (hT : HT gl) : OKA PP (rhoS gl) B 0 ta0 := okA_mk OKO.no OKO.no OKO.no OKO.no (OKO.fn e4) (OKO.fn e5) OKO.no OKO.no OKO.no OKO.no OKO.no OKO.no (OKO.fn e12) (OKO.fn e13) (OKO.fn e14) (OKO.fn e15)
noncomputable def ta1 : FA := .mk (some x16) (some x17) none none none (some x21) (some x22) (some x23) (some x24) (some x25) (some x26) (some x27) (some x28) (some x29) (some x30) (some x31)
theorem oa1 {gl : GlF} (hT : HT gl) : OKA PP (rhoS gl) B 16 ta1 := okA_mk (OKO.fn e16) (OKO.fn e17) OKO.no OKO.no OKO.no (OKO.fn e21) (OKO.fn e22) (OKO.fn e23) (OKO.fn e24) (OKO.fn e25) (OKO.fn e26) (OKO.fn e27) (OKO.fn e28) (OKO.fn e29) (OKO.fn e30) (OKO.fn e31)
noncomputable def ta2 : FA := .mk (some x32) (some x33) none none (some x36) (some x37) (some x38) (some x39) (some x40) (some x41) (some x42) (some x43) (some x44) (some x45) (some x46) none
theorem oa2 {gl : GlF} (hT : HT gl) : OKA PP (rhoS gl) B 32 ta2 := okA_mk (OKO.fn e32) (OKO.fn e33) OKO.no OKO.no (OKO.fn e36) (OKO.fn e37) (OKO.fn e38) (OKO.fn e39) (OKO.fn e40) (OKO.fn e41) (OKO.fn e42) (OKO.fn e43) (OKO.fn e44) (OKO.fn e45) (OKO.fn e46) OKO.no
noncomputable def ta3 : FA := .mk (some x48) (some x49) (some (.prim pIndex)) (some x51) (some x52) (some x53) (some x54) (some x55) (some (.prim pDigits)) (some x57) (some x58) none none none (some x62) (some x63)
theorem oa3 {gl : GlF} (hT : HT gl) : OKA PP (rhoS gl) B 48 ta3 := okA_mk (OKO.fn e48) (OKO.fn e49) (OKO.pr (@index_ok Go.Proofs.Tryd.prog (rhoS gl) B 50 Go.Proofs.Tryd.f50 gl 0 Go.Proofs.Tryd.func50 (by kernel_rfl) (by kernel_rfl) index50 rfl hT.2)) (OKO.fn e51) (OKO.fn e52) (OKO.fn e53) (OKO.fn e54) (OKO.fn e55) (OKO.pr (@digits_ok Go.Proofs.Tryd.prog (rhoS gl) B 56 Go.Proofs.Tryd.f56 gl Go.Proofs.Tryd.func56 (by kernel_rfl) (by kernel_rfl) digits56 rfl hT.1)) (OKO.fn e57) (OKO.fn e58) OKO.no OKO.no OKO.no (OKO.fn e62) (OKO.fn e63)
noncomputable def ta4 : FA := .mk (some (.prim pCountString)) (some (.prim pIndexByteString)) none none none (some x69) (some x70) none (some x72) (some x73) (some x74) none none none none none
theorem oa4 {gl : GlF} (hT : HT gl) : OKA PP (rhoS gl) B 64 ta4 := okA_mk (OKO.pr (@countString_ok Go.Proofs.Tryd.prog (rhoS gl) B 64 bare64)) (OKO.pr (@indexByteString_ok Go.Proofs.Tryd.prog (rhoS gl) B 65 bare65)) OKO.no OKO.no OKO.no (OKO.fn e69) (OKO.fn e70) OKO.no (OKO.fn e72) (OKO.fn e73) (OKO.fn e74) OKO.no OKO.no OKO.no OKO.no OKO.no
noncomputable def tb0 : FB := .mk ta0 ta1 ta2 ta3 ta4 noA noA noA noA noA noA noA noA noA noA noA
theorem ob0 {gl : GlF} (hT : HT gl) : OKB PP (rhoS gl) B 0 tb0 := okB_mk (oa0 hT) (oa1 hT) (oa2 hT) (oa3 hT) (oa4 hT) okA_no okA_no okA_no okA_no okA_no okA_no okA_no okA_no okA_no okA_no okA_no
noncomputable def tab : FC := .mk tb0 noB noB noB noB noB noB noB noB noB noB noB noB noB noB noB
theorem tab_ok {gl : GlF} (hT : HT gl) (B : Nat) : TabOK Go.Proofs.Tryd.prog (rhoS gl) B tab := .mkG (okC_mk (ob0 hT) okB_no okB_no okB_no okB_no okB_no okB_no okB_no okB_no okB_no okB_no okB_no okB_no okB_no okB_no) ha_nil
end Z
end Go.Ev.YtljckklenkcnnaaDoor
