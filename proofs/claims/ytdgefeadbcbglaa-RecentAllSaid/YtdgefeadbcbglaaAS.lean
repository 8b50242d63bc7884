/- slices.SortFunc of keys, and the closure that recent.All sorts by. Conditions: none of its own; each theorem bears its premises. -/
import Derived.Test.YtdgefeadbcbglaaProg
import Derived.Test.YtdgefeadbcbglaaAEv6
import Derived.Shelf.SlSortCmp.NoneTotal
import Derived.WalkKit
import Derived.KernelRfl
import Derived.Deep.QuietTactic
import Derived.BigQuiet
namespace Go.Ev.Ytdgefeadbcbglaa
open Go Go.Ev Go.RowKit
set_option linter.unusedVariables false
def fren:Shelf.Ren := { f := fun x => match x with | 6 => 76 | 14 => 98 | 15 => 95 | 20 => 116 | 21 => 117 | 22 => 118 | 23 => 119 | 24 => 120 | 25 => 121 | 26 => 122 | 27 => 123 | 28 => 114 | 29 => 115 | 46 => 149 | 47 => 145 | 48 => 146 | 49 => 150 | 50 => 151 | 57 => 162 | _ => 0, t := fun x => match x with | 0 => 0 | 3 => 3 | 4 => 4 | 5 => 5 | 9 => 9 | 22 => 27 | 24 => 32 | 25 => 93 | 39 => 152 | 45 => 166 | 46 => 167 | 50 => 171 | 53 => 30 | 55 => 63 | 66 => 194 | 70 => 197 | 76 => 206 | 77 => 207 | _ => 0, g := fun _ => 0 }
theorem flay:Go.Proofs.SlLaysF0.n6 Go.Proofs.Try.prog fren where
  mixed := by kernel_rfl
  f6 := ⟨Go.Proofs.Try.f76.name, of_decide_eq_true (by kernel_rfl), Go.Proofs.Try.func76.trans (by kernel_rfl)⟩
  f14 := ⟨Go.Proofs.Try.f98.name, of_decide_eq_true (by kernel_rfl), Go.Proofs.Try.func98.trans (by kernel_rfl)⟩
  f15 := Go.Proofs.Try.func95.trans (by kernel_rfl)
  f20 := ⟨Go.Proofs.Try.f116.name, of_decide_eq_true (by kernel_rfl), Go.Proofs.Try.func116.trans (by kernel_rfl)⟩
  f21 := ⟨Go.Proofs.Try.f117.name, of_decide_eq_true (by kernel_rfl), Go.Proofs.Try.func117.trans (by kernel_rfl)⟩
  f22 := ⟨Go.Proofs.Try.f118.name, of_decide_eq_true (by kernel_rfl), Go.Proofs.Try.func118.trans (by kernel_rfl)⟩
  f23 := ⟨Go.Proofs.Try.f119.name, of_decide_eq_true (by kernel_rfl), Go.Proofs.Try.func119.trans (by kernel_rfl)⟩
  f24 := ⟨Go.Proofs.Try.f120.name, of_decide_eq_true (by kernel_rfl), Go.Proofs.Try.func120.trans (by kernel_rfl)⟩
  f25 := ⟨Go.Proofs.Try.f121.name, of_decide_eq_true (by kernel_rfl), Go.Proofs.Try.func121.trans (by kernel_rfl)⟩
  f26 := ⟨Go.Proofs.Try.f122.name, of_decide_eq_true (by kernel_rfl), Go.Proofs.Try.func122.trans (by kernel_rfl)⟩
  f27 := ⟨Go.Proofs.Try.f123.name, of_decide_eq_true (by kernel_rfl), Go.Proofs.Try.func123.trans (by kernel_rfl)⟩
  f28 := Go.Proofs.Try.func114.trans (by kernel_rfl)
  f29 := Go.Proofs.Try.func115.trans (by kernel_rfl)
  f46 := ⟨Go.Proofs.Try.f149.name, of_decide_eq_true (by kernel_rfl), Go.Proofs.Try.func149.trans (by kernel_rfl)⟩
  f47 := Go.Proofs.Try.func145.trans (by kernel_rfl)
  f48 := Go.Proofs.Try.func146.trans (by kernel_rfl)
  f49 := ⟨Go.Proofs.Try.f150.name, of_decide_eq_true (by kernel_rfl), Go.Proofs.Try.func150.trans (by kernel_rfl)⟩
  f50 := ⟨Go.Proofs.Try.f151.name, of_decide_eq_true (by kernel_rfl), Go.Proofs.Try.func151.trans (by kernel_rfl)⟩
  f57 := ⟨Go.Proofs.Try.f162.name, of_decide_eq_true (by kernel_rfl), Go.Proofs.Try.func162.trans (by kernel_rfl)⟩
  t0 := Go.Proofs.Try.underlying0
  a0 := Go.Proofs.Try.isAgg0
  z0 := Go.Proofs.Try.sizeOf0
  v0 := Go.Proofs.Try.zeroValue0
  t3 := Go.Proofs.Try.underlying3
  a3 := Go.Proofs.Try.isAgg3
  z3 := Go.Proofs.Try.sizeOf3
  v3 := Go.Proofs.Try.zeroValue3
  t4 := Go.Proofs.Try.underlying4
  a4 := Go.Proofs.Try.isAgg4
  z4 := Go.Proofs.Try.sizeOf4
  v4 := Go.Proofs.Try.zeroValue4
  t5 := Go.Proofs.Try.underlying5
  a5 := Go.Proofs.Try.isAgg5
  z5 := Go.Proofs.Try.sizeOf5
  v5 := Go.Proofs.Try.zeroValue5
  t9 := Go.Proofs.Try.underlying9
  a9 := Go.Proofs.Try.isAgg9
  z9 := Go.Proofs.Try.sizeOf9
  v9 := Go.Proofs.Try.zeroValue9
  t22 := Go.Proofs.Try.underlying27
  a22 := Go.Proofs.Try.isAgg27
  z22 := Go.Proofs.Try.sizeOf27
  v22 := Go.Proofs.Try.zeroValue27
  t25 := Go.Proofs.Try.underlying93
  a25 := Go.Proofs.Try.isAgg93
  z25 := Go.Proofs.Try.sizeOf93
  v25 := Go.Proofs.Try.zeroValue93
  t39 := Go.Proofs.Try.underlying152
  a39 := Go.Proofs.Try.isAgg152
  z39 := Go.Proofs.Try.sizeOf152
  v39 := Go.Proofs.Try.zeroValue152
  t45 := Go.Proofs.Try.underlying166
  a45 := Go.Proofs.Try.isAgg166
  z45 := Go.Proofs.Try.sizeOf166
  v45 := Go.Proofs.Try.zeroValue166
  t46 := Go.Proofs.Try.underlying167
  a46 := Go.Proofs.Try.isAgg167
  z46 := Go.Proofs.Try.sizeOf167
  v46 := Go.Proofs.Try.zeroValue167
  t50 := Go.Proofs.Try.underlying171
  a50 := Go.Proofs.Try.isAgg171
  z50 := Go.Proofs.Try.sizeOf171
  v50 := Go.Proofs.Try.zeroValue171
  t53 := Go.Proofs.Try.underlying30
  a53 := Go.Proofs.Try.isAgg30
  z53 := Go.Proofs.Try.sizeOf30
  v53 := Go.Proofs.Try.zeroValue30
  t55 := Go.Proofs.Try.underlying63
  a55 := Go.Proofs.Try.isAgg63
  z55 := Go.Proofs.Try.sizeOf63
  v55 := Go.Proofs.Try.zeroValue63
  t66 := Go.Proofs.Try.underlying194
  a66 := Go.Proofs.Try.isAgg194
  z66 := Go.Proofs.Try.sizeOf194
  v66 := Go.Proofs.Try.zeroValue194
  t70 := Go.Proofs.Try.underlying197
  a70 := Go.Proofs.Try.isAgg197
  z70 := Go.Proofs.Try.sizeOf197
  v70 := Go.Proofs.Try.zeroValue197
  t76 := Go.Proofs.Try.underlying206
  a76 := Go.Proofs.Try.isAgg206
  z76 := Go.Proofs.Try.sizeOf206
  v76 := Go.Proofs.Try.zeroValue206
  t77 := Go.Proofs.Try.underlying207
  a77 := Go.Proofs.Try.isAgg207
  z77 := Go.Proofs.Try.sizeOf207
  v77 := Go.Proofs.Try.zeroValue207
theorem sortf76:OU Go.Proofs.Try.prog 76 := fun α _ enc hk h1 cf hO g cb blk off cap d w eg hcmp hH hblk hsz => Go.Proofs.AnyQ.slices_SortFunc flay 2 Go.Proofs.Try.isAgg32 Go.Proofs.Try.sizeOf32 enc hk h1 cf hO g cb blk off cap d w eg hcmp hH hblk hsz
theorem sortn76:QH Go.Proofs.Try.prog 76 := fun p cap fv w => Go.Proofs.AnyF.slices_SortFunc_none flay p cap fv w
theorem cmp47:Rq Go.Proofs.Try.prog 47 86 := by
  intro bz oz bl ol bm O ta tb sa sb ua ub W hz hl hm b1 b2 b3 hA hB h1 h2
  go_enter Go.Proofs.Try.func47, Go.Proofs.Try.ntmps47
  go_wp2
  have hm2:∀ n, (((W.alloc (Obj.cells #[Value.int IntKind.u32 ta, Value.string sa] 32)).alloc (Obj.cells #[Value.int IntKind.u32 tb, Value.string sb] 32)).drewN n).heap[bm]? = some O := by
    intro n
    show ((W.heap.push _).push _)[bm]? = some O
    rw [Array.getElem?_push, Array.getElem?_push]
    rw [if_neg (by simp; omega), if_neg (by omega), hm]
  have hA' := fun n => hA _ (hm2 n)
  have hB' := fun n => hB _ (hm2 n)
  clear hA hB
  go_quiet ((first | (rw [hA']; exact ⟨rfl, rfl⟩) | (rw [hB']; exact ⟨rfl, rfl⟩)))
  go_wp2
  go_ret
  exact ⟨rfl, nq, #[Obj.cells #[Value.int IntKind.u32 ta, Value.string sa] 32, Obj.cells #[Value.int IntKind.u32 tb, Value.string sb] 32], by
    rw [Go.Sort.alloc_eq_grow, Go.Sort.alloc_eq_grow, Go.Sort.grow_grow]; rfl⟩
end Go.Ev.Ytdgefeadbcbglaa
