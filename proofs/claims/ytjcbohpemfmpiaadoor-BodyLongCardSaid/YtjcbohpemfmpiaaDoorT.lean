/- The table of the functions. -/
import Derived.Test.YtjcbohpemfmpiaaDoorF0
import Derived.Test.YtjcbohpemfmpiaaDoorEv4
import Derived.Test.YtjcbohpemfmpiaaDoorEv4
import Derived.Test.YtjcbohpemfmpiaaDoorHz
import Derived.KernelRfl
namespace Go.Ev.YtjcbohpemfmpiaaDoor
open Go Go.Ev
set_option linter.unusedVariables false
set_option maxRecDepth 100000

noncomputable abbrev rhoS (gl : GlF) : Env := envGl Go.Proofs.Tryd.prog [] gl
theorem oneS {gl : GlF} : OneSym (rhoS gl) := oneGl
abbrev HT (gl : GlF) : Prop := TabG PP gl "math/bits.deBruijn64tab" .u8 tz64Tab
variable {B : Nat}
noncomputable def ta0 : FA := .mk none none none none none none none none none none none (some x11) none (some x13) none (some x15)
theorem oa0 {gl : GlF} (hT : HT gl) : OKA PP (rhoS gl) B 0 ta0 := okA_mk OKO.no OKO.no OKO.no OKO.no OKO.no OKO.no OKO.no OKO.no OKO.no OKO.no OKO.no (OKO.fn e11) OKO.no (OKO.fn e13) OKO.no (OKO.fn e15)
noncomputable def ta1 : FA := .mk none none none none (some x20) none (some x22) (some x23) (some x24) none none none none none (some x30) (some x31)
theorem oa1 {gl : GlF} (hT : HT gl) : OKA PP (rhoS gl) B 16 ta1 := okA_mk OKO.no OKO.no OKO.no OKO.no (OKO.fn e20) OKO.no (OKO.fn e22) (OKO.fn e23) (OKO.fn e24) OKO.no OKO.no OKO.no OKO.no OKO.no (OKO.fn e30) (OKO.fn e31)
noncomputable def ta2 : FA := .mk (some x32) (some x33) none none none none none none none none none none none (some (.prim (noFn "function 45"))) (some (.prim (noFn "function 46"))) (some (.prim (noFn "function 47")))
theorem oa2 {gl : GlF} (hT : HT gl) : OKA PP (rhoS gl) B 32 ta2 := okA_mk (OKO.fn e32) (OKO.fn e33) OKO.no OKO.no OKO.no OKO.no OKO.no OKO.no OKO.no OKO.no OKO.no OKO.no OKO.no (OKO.noP _) (OKO.noP _) (OKO.noP _)
noncomputable def ta3 : FA := .mk (some x48) (some x49) none none none none none none none none none none none none (some x62) (some (.prim pTz))
theorem oa3 {gl : GlF} (hT : HT gl) : OKA PP (rhoS gl) B 48 ta3 := okA_mk (OKO.fn e48) (OKO.fn e49) OKO.no OKO.no OKO.no OKO.no OKO.no OKO.no OKO.no OKO.no OKO.no OKO.no OKO.no OKO.no (OKO.fn e62) (OKO.pr (@tz_ok Go.Proofs.Tryd.prog (rhoS gl) B 63 Go.Proofs.Tryd.f63 gl Go.Proofs.Tryd.func63 (by kernel_rfl) (by kernel_rfl) Go.Proofs.YtjcbohpemfmpiaaDoor.bodyLong.tzFn rfl hT))
noncomputable def ta4 : FA := .mk (some x64) none none none none none none none none none none none none none none none
theorem oa4 {gl : GlF} (hT : HT gl) : OKA PP (rhoS gl) B 64 ta4 := okA_mk (OKO.fn e64) OKO.no OKO.no OKO.no OKO.no OKO.no OKO.no OKO.no OKO.no OKO.no OKO.no OKO.no OKO.no OKO.no OKO.no OKO.no
noncomputable def tb0 : FB := .mk ta0 ta1 ta2 ta3 ta4 noA noA noA noA noA noA noA noA noA noA noA
theorem ob0 {gl : GlF} (hT : HT gl) : OKB PP (rhoS gl) B 0 tb0 := okB_mk (oa0 hT) (oa1 hT) (oa2 hT) (oa3 hT) (oa4 hT) okA_no okA_no okA_no okA_no okA_no okA_no okA_no okA_no okA_no okA_no okA_no
noncomputable def tab : FC := .mk tb0 noB noB noB noB noB noB noB noB noB noB noB noB noB noB noB
theorem tab_ok {gl : GlF} (hT : HT gl) (B : Nat) : TabOK Go.Proofs.Tryd.prog (rhoS gl) B tab := .mkG (okC_mk (ob0 hT) okB_no okB_no okB_no okB_no okB_no okB_no okB_no okB_no okB_no okB_no okB_no okB_no okB_no okB_no) ha_nil
end Go.Ev.YtjcbohpemfmpiaaDoor
