/- The table of the functions, once more: some are told. -/
import Derived.Test.YtljckklenkcnnaaDoorZ
import Derived.KernelRfl
namespace Go.Ev.YtljckklenkcnnaaDoor
open Go Go.Ev
set_option linter.unusedVariables false
set_option maxRecDepth 100000

theorem mixedS : Go.Proofs.Tryd.prog.follows .mixedOrders = true := by kernel_rfl
noncomputable def memo12 : Memo := [([], .bool true)]
theorem memo12_ok : MemoOK Z.tab 100 12 memo12 := (memo_cons (by kernel_rfl) memo_nil)
noncomputable def memo13 : Memo := [([(.int .i64 200), (.str 3 6434657), (.int .i64 12), (.int .i64 3), (.bool true)], (.str 80 179128095358653401524626796388178319456262260536718618242196466292828292456286840314756024219038549443850360086577210519171867327936032335091519402285790586972189008805055527231347327310779464))]
theorem memo13_ok : MemoOK Z.tab 100 13 memo13 := (memo_cons (by kernel_rfl) memo_nil)
noncomputable def memo27 : Memo := [([(.str 12 31393958642898984038472511299)], .bool true), ([(.str 14 2118593076047644386086300223958851)], .bool true), ([(.str 3 6645569)], .bool true), ([(.str 7 28543748690619736)], .bool true)]
theorem memo27_ok : MemoT Z.tab 100 27 memo27 := (memt_cons (by kernel_rfl) (memt_cons (by kernel_rfl) (memt_cons (by kernel_rfl) (memt_cons (by kernel_rfl) memt_nil))))
noncomputable def memo15 : Memo := [([(.str 12 31393958642898984038472511299)], .bool true), ([(.str 14 2118593076047644386086300223958851)], .bool true), ([(.str 3 6645569)], .bool true), ([(.str 7 28543748690619736)], .bool true)]
theorem memo15_ok : MemoT Z.tab 100 15 memo15 := (memt_cons (by kernel_rfl) (memt_cons (by kernel_rfl) (memt_cons (by kernel_rfl) (memt_cons (by kernel_rfl) memt_nil))))
noncomputable def memo28 : Memo := [([(.str 3 6434657)], .bool true), ([(.str 2 12849)], .bool true), ([(.str 1 51)], .bool true), ([(.str 3 5523784)], .bool true)]
theorem memo28_ok : MemoT Z.tab 100 28 memo28 := (memt_cons (by kernel_rfl) (memt_cons (by kernel_rfl) (memt_cons (by kernel_rfl) (memt_cons (by kernel_rfl) memt_nil))))
noncomputable def memo16 : Memo := [([(.str 3 6434657)], .bool true), ([(.str 2 12849)], .bool true), ([(.str 1 51)], .bool true), ([(.str 3 5523784)], .bool true)]
theorem memo16_ok : MemoT Z.tab 100 16 memo16 := (memt_cons (by kernel_rfl) (memt_cons (by kernel_rfl) (memt_cons (by kernel_rfl) (memt_cons (by kernel_rfl) memt_nil))))
noncomputable def memo26 : Memo := [([(.str 4 1647272224)], (.str 3 6434657)), ([(.str 3 3289376)], (.str 2 12849)), ([(.str 2 13088)], (.str 1 51)), ([(.str 4 1414088736)], (.str 3 5523784))]
theorem memo26_ok : MemoT Z.tab 100 26 memo26 := (memt_cons (by kernel_rfl) (memt_cons (by kernel_rfl) (memt_cons (by kernel_rfl) (memt_cons (by kernel_rfl) memt_nil))))
noncomputable def memo25 : Memo := [([(.str 15 391027124963546633491925427159323720)], .tup [.int .i64 200, .bool true])]
theorem memo25_ok : MemoT Z.tab 100 25 memo25 := (memt_cons (by kernel_rfl) memt_nil)
variable {B : Nat}
noncomputable def ta0 : FA := .mk none none none none (some x4) (some x5) none none none none none none (some (.prim (memoP memo12))) (some (.prim (memoP memo13))) (some x14) (some (.tree (memoT Z.tab 100 (fnKey 15) memo15)))
theorem oa0 {gl : GlF} (hT : HT gl) : OKA PP (rhoS gl) B 0 ta0 := okA_mk OKO.no OKO.no OKO.no OKO.no (OKO.fn e4) (OKO.fn e5) OKO.no OKO.no OKO.no OKO.no OKO.no OKO.no (OKO.pr (memo_ok oneS mixedS (fun B => Z.tab_ok hT B) memo12_ok)) (OKO.pr (memo_ok oneS mixedS (fun B => Z.tab_ok hT B) memo13_ok)) (OKO.fn e14) (OKO.tr (memt_ok oneS mixedS (fun B => Z.tab_ok hT B) memo15_ok))
noncomputable def ta1 : FA := .mk (some (.tree (memoT Z.tab 100 (fnKey 16) memo16))) (some x17) none none none (some x21) (some x22) (some x23) (some x24) (some (.tree (memoT Z.tab 100 (fnKey 25) memo25))) (some (.tree (memoT Z.tab 100 (fnKey 26) memo26))) (some (.tree (memoT Z.tab 100 (fnKey 27) memo27))) (some (.tree (memoT Z.tab 100 (fnKey 28) memo28))) (some x29) (some x30) (some x31)
theorem oa1 {gl : GlF} (hT : HT gl) : OKA PP (rhoS gl) B 16 ta1 := okA_mk (OKO.tr (memt_ok oneS mixedS (fun B => Z.tab_ok hT B) memo16_ok)) (OKO.fn e17) OKO.no OKO.no OKO.no (OKO.fn e21) (OKO.fn e22) (OKO.fn e23) (OKO.fn e24) (OKO.tr (memt_ok oneS mixedS (fun B => Z.tab_ok hT B) memo25_ok)) (OKO.tr (memt_ok oneS mixedS (fun B => Z.tab_ok hT B) memo26_ok)) (OKO.tr (memt_ok oneS mixedS (fun B => Z.tab_ok hT B) memo27_ok)) (OKO.tr (memt_ok oneS mixedS (fun B => Z.tab_ok hT B) memo28_ok)) (OKO.fn e29) (OKO.fn e30) (OKO.fn e31)
noncomputable def ta2 : FA := .mk (some x32) (some x33) none none (some x36) (some x37) (some x38) (some x39) (some x40) (some x41) (some x42) (some x43) (some x44) (some x45) (some x46) none
theorem oa2 {gl : GlF} (hT : HT gl) : OKA PP (rhoS gl) B 32 ta2 := okA_mk (OKO.fn e32) (OKO.fn e33) OKO.no OKO.no (OKO.fn e36) (OKO.fn e37) (OKO.fn e38) (OKO.fn e39) (OKO.fn e40) (OKO.fn e41) (OKO.fn e42) (OKO.fn e43) (OKO.fn e44) (OKO.fn e45) (OKO.fn e46) OKO.no
noncomputable def ta3 : FA := .mk (some x48) (some x49) (some (.prim pIndex)) (some x51) (some x52) (some x53) (some x54) (some x55) (some (.prim pDigits)) (some x57) (some x58) none none none (some x62) (some x63)
theorem oa3 {gl : GlF} (hT : HT gl) : OKA PP (rhoS gl) B 48 ta3 := okA_mk (OKO.fn e48) (OKO.fn e49) (OKO.pr (@index_ok Go.Proofs.Tryd.prog (rhoS gl) B 50 Go.Proofs.Tryd.f50 gl 0 Go.Proofs.Tryd.func50 (by kernel_rfl) (by kernel_rfl) index50 rfl hT.2)) (OKO.fn e51) (OKO.fn e52) (OKO.fn e53) (OKO.fn e54) (OKO.fn e55) (OKO.pr (@digits_ok Go.Proofs.Tryd.prog (rhoS gl) B 56 Go.Proofs.Tryd.f56 gl Go.Proofs.Tryd.func56 (by kernel_rfl) (by kernel_rfl) digits56 rfl hT.1)) (OKO.fn e57) (OKO.fn e58) OKO.no OKO.no OKO.no (OKO.fn e62) (OKO.fn e63)
noncomputable def ta4 : FA := .mk (some (.prim pCountString)) (some (.prim pIndexByteString)) none none none (some x69) (some x70) none (some x72) (some x73) (some x74) none none none none none
theorem oa4 {gl : GlF} (hT : HT gl) : OKA PP (rhoS gl) B 64 ta4 := okA_mk (OKO.pr (@countString_ok Go.Proofs.Tryd.prog (rhoS gl) B 64 bare64)) (OKO.pr (@indexByteString_ok Go.Proofs.Tryd.prog (rhoS gl) B 65 bare65)) OKO.no OKO.no OKO.no (OKO.fn e69) (OKO.fn e70) OKO.no (OKO.fn e72) (OKO.fn e73) (OKO.fn e74) OKO.no OKO.no OKO.no OKO.no OKO.no
noncomputable def tb0 : FB := .mk ta0 ta1 ta2 ta3 ta4 noA noA noA noA noA noA noA noA noA noA noA
theorem ob0 {gl : GlF} (hT : HT gl) : OKB PP (rhoS gl) B 0 tb0 := okB_mk (oa0 hT) (oa1 hT) (oa2 hT) (oa3 hT) (oa4 hT) okA_no okA_no okA_no okA_no okA_no okA_no okA_no okA_no okA_no okA_no okA_no
noncomputable def tab : FC := .mk tb0 noB noB noB noB noB noB noB noB noB noB noB noB noB noB noB
theorem tab_ok {gl : GlF} (hT : HT gl) (B : Nat) : TabOK Go.Proofs.Tryd.prog (rhoS gl) B tab := .mkG (okC_mk (ob0 hT) okB_no okB_no okB_no okB_no okB_no okB_no okB_no okB_no okB_no okB_no okB_no okB_no okB_no okB_no) ha_nil
end Go.Ev.YtljckklenkcnnaaDoor
