/- slices.SortFunc of keys, and the closure that recent.All sorts by. Conditions: none of its own; each theorem bears its premises. -/
import Derived.Test.YtppjipfollgbcaaProg
import Derived.Test.YtppjipfollgbcaaEv5
import Derived.Shelf.SlSortCmp.NoneTotal
import Derived.WalkKit
import Derived.KernelRfl
import Derived.Deep.QuietTactic
import Derived.BigQuiet
namespace Go.Ev.Ytppjipfollgbcaa
open Go Go.Ev Go.RowKit
set_option linter.unusedVariables false
def fren : Shelf.Ren := { f := fun x => match x with | 6 => 37 | 14 => 43 | 15 => 41 | 20 => 55 | 21 => 56 | 22 => 57 | 23 => 58 | 24 => 59 | 25 => 60 | 26 => 61 | 27 => 62 | 28 => 53 | 29 => 54 | 46 => 69 | 47 => 64 | 48 => 65 | 49 => 70 | 50 => 71 | 57 => 73 | _ => 0, t := fun x => match x with | 0 => 0 | 3 => 3 | 4 => 4 | 5 => 5 | 9 => 9 | 22 => 62 | 24 => 38 | 25 => 67 | 39 => 88 | 45 => 92 | 46 => 93 | 50 => 98 | 53 => 35 | 55 => 49 | 66 => 106 | 70 => 110 | 76 => 115 | 77 => 116 | _ => 0, g := fun _ => 0 }
theorem flay : Go.Proofs.SlLaysF0.n6 Go.Proofs.Try.prog fren where
  mixed := by kernel_rfl
  f6 := ⟨Go.Proofs.Try.f37.name, of_decide_eq_true (by kernel_rfl), Go.Proofs.Try.func37.trans (by kernel_rfl)⟩
  f14 := ⟨Go.Proofs.Try.f43.name, of_decide_eq_true (by kernel_rfl), Go.Proofs.Try.func43.trans (by kernel_rfl)⟩
  f15 := Go.Proofs.Try.func41.trans (by kernel_rfl)
  f20 := ⟨Go.Proofs.Try.f55.name, of_decide_eq_true (by kernel_rfl), Go.Proofs.Try.func55.trans (by kernel_rfl)⟩
  f21 := ⟨Go.Proofs.Try.f56.name, of_decide_eq_true (by kernel_rfl), Go.Proofs.Try.func56.trans (by kernel_rfl)⟩
  f22 := ⟨Go.Proofs.Try.f57.name, of_decide_eq_true (by kernel_rfl), Go.Proofs.Try.func57.trans (by kernel_rfl)⟩
  f23 := ⟨Go.Proofs.Try.f58.name, of_decide_eq_true (by kernel_rfl), Go.Proofs.Try.func58.trans (by kernel_rfl)⟩
  f24 := ⟨Go.Proofs.Try.f59.name, of_decide_eq_true (by kernel_rfl), Go.Proofs.Try.func59.trans (by kernel_rfl)⟩
  f25 := ⟨Go.Proofs.Try.f60.name, of_decide_eq_true (by kernel_rfl), Go.Proofs.Try.func60.trans (by kernel_rfl)⟩
  f26 := ⟨Go.Proofs.Try.f61.name, of_decide_eq_true (by kernel_rfl), Go.Proofs.Try.func61.trans (by kernel_rfl)⟩
  f27 := ⟨Go.Proofs.Try.f62.name, of_decide_eq_true (by kernel_rfl), Go.Proofs.Try.func62.trans (by kernel_rfl)⟩
  f28 := Go.Proofs.Try.func53.trans (by kernel_rfl)
  f29 := Go.Proofs.Try.func54.trans (by kernel_rfl)
  f46 := ⟨Go.Proofs.Try.f69.name, of_decide_eq_true (by kernel_rfl), Go.Proofs.Try.func69.trans (by kernel_rfl)⟩
  f47 := Go.Proofs.Try.func64.trans (by kernel_rfl)
  f48 := Go.Proofs.Try.func65.trans (by kernel_rfl)
  f49 := ⟨Go.Proofs.Try.f70.name, of_decide_eq_true (by kernel_rfl), Go.Proofs.Try.func70.trans (by kernel_rfl)⟩
  f50 := ⟨Go.Proofs.Try.f71.name, of_decide_eq_true (by kernel_rfl), Go.Proofs.Try.func71.trans (by kernel_rfl)⟩
  f57 := ⟨Go.Proofs.Try.f73.name, of_decide_eq_true (by kernel_rfl), Go.Proofs.Try.func73.trans (by kernel_rfl)⟩
  t0 := Go.Proofs.Try.underlying0
  a0 := Go.Proofs.Try.isAgg0
  z0 := Go.Proofs.Try.sizeOf0
  v0 := Go.Proofs.Try.zeroValue0
  t3 := Go.Proofs.Try.underlying3
  a3 := Go.Proofs.Try.isAgg3
  z3 := Go.Proofs.Try.sizeOf3
  v3 := Go.Proofs.Try.zeroValue3
  t4 := Go.Proofs.Try.underlying4
  a4 := Go.Proofs.Try.isAgg4
  z4 := Go.Proofs.Try.sizeOf4
  v4 := Go.Proofs.Try.zeroValue4
  t5 := Go.Proofs.Try.underlying5
  a5 := Go.Proofs.Try.isAgg5
  z5 := Go.Proofs.Try.sizeOf5
  v5 := Go.Proofs.Try.zeroValue5
  t9 := Go.Proofs.Try.underlying9
  a9 := Go.Proofs.Try.isAgg9
  z9 := Go.Proofs.Try.sizeOf9
  v9 := Go.Proofs.Try.zeroValue9
  t22 := Go.Proofs.Try.underlying62
  a22 := Go.Proofs.Try.isAgg62
  z22 := Go.Proofs.Try.sizeOf62
  v22 := Go.Proofs.Try.zeroValue62
  t25 := Go.Proofs.Try.underlying67
  a25 := Go.Proofs.Try.isAgg67
  z25 := Go.Proofs.Try.sizeOf67
  v25 := Go.Proofs.Try.zeroValue67
  t39 := Go.Proofs.Try.underlying88
  a39 := Go.Proofs.Try.isAgg88
  z39 := Go.Proofs.Try.sizeOf88
  v39 := Go.Proofs.Try.zeroValue88
  t45 := Go.Proofs.Try.underlying92
  a45 := Go.Proofs.Try.isAgg92
  z45 := Go.Proofs.Try.sizeOf92
  v45 := Go.Proofs.Try.zeroValue92
  t46 := Go.Proofs.Try.underlying93
  a46 := Go.Proofs.Try.isAgg93
  z46 := Go.Proofs.Try.sizeOf93
  v46 := Go.Proofs.Try.zeroValue93
  t50 := Go.Proofs.Try.underlying98
  a50 := Go.Proofs.Try.isAgg98
  z50 := Go.Proofs.Try.sizeOf98
  v50 := Go.Proofs.Try.zeroValue98
  t53 := Go.Proofs.Try.underlying35
  a53 := Go.Proofs.Try.isAgg35
  z53 := Go.Proofs.Try.sizeOf35
  v53 := Go.Proofs.Try.zeroValue35
  t55 := Go.Proofs.Try.underlying49
  a55 := Go.Proofs.Try.isAgg49
  z55 := Go.Proofs.Try.sizeOf49
  v55 := Go.Proofs.Try.zeroValue49
  t66 := Go.Proofs.Try.underlying106
  a66 := Go.Proofs.Try.isAgg106
  z66 := Go.Proofs.Try.sizeOf106
  v66 := Go.Proofs.Try.zeroValue106
  t70 := Go.Proofs.Try.underlying110
  a70 := Go.Proofs.Try.isAgg110
  z70 := Go.Proofs.Try.sizeOf110
  v70 := Go.Proofs.Try.zeroValue110
  t76 := Go.Proofs.Try.underlying115
  a76 := Go.Proofs.Try.isAgg115
  z76 := Go.Proofs.Try.sizeOf115
  v76 := Go.Proofs.Try.zeroValue115
  t77 := Go.Proofs.Try.underlying116
  a77 := Go.Proofs.Try.isAgg116
  z77 := Go.Proofs.Try.sizeOf116
  v77 := Go.Proofs.Try.zeroValue116
theorem sortf37 : SortFnK Go.Proofs.Try.prog 37 := fun α _ enc hk h1 cf hO g cb blk off cap d w eg hcmp hH hblk hsz => Go.Proofs.AnyQ.slices_SortFunc flay 2 Go.Proofs.Try.isAgg38 Go.Proofs.Try.sizeOf38 enc hk h1 cf hO g cb blk off cap d w eg hcmp hH hblk hsz
theorem sortn37 : SortNilK Go.Proofs.Try.prog 37 := fun p cap fv w => Go.Proofs.AnyF.slices_SortFunc_none flay p cap fv w
theorem cmp27 : CmpFnK Go.Proofs.Try.prog 27 59 := by
  intro bz oz bl ol bm O ta tb sa sb ua ub W hz hl hm b1 b2 b3 hA hB h1 h2
  go_enter Go.Proofs.Try.func27, Go.Proofs.Try.ntmps27
  go_wp2
  have hm2 : ∀ n, (((W.alloc (Obj.cells #[Value.int IntKind.u32 ta, Value.string sa] 38)).alloc (Obj.cells #[Value.int IntKind.u32 tb, Value.string sb] 38)).drewN n).heap[bm]? = some O := by
    intro n
    show ((W.heap.push _).push _)[bm]? = some O
    rw [Array.getElem?_push, Array.getElem?_push]
    rw [if_neg (by simp; omega), if_neg (by omega), hm]
  have hA' := fun n => hA _ (hm2 n)
  have hB' := fun n => hB _ (hm2 n)
  clear hA hB
  go_quiet ((first | (rw [hA']; exact ⟨rfl, rfl⟩) | (rw [hB']; exact ⟨rfl, rfl⟩)))
  go_wp2
  go_ret
  exact ⟨rfl, nq, #[Obj.cells #[Value.int IntKind.u32 ta, Value.string sa] 38, Obj.cells #[Value.int IntKind.u32 tb, Value.string sb] 38], by
    rw [Go.Sort.alloc_eq_grow, Go.Sort.alloc_eq_grow, Go.Sort.grow_grow]; rfl⟩
end Go.Ev.Ytppjipfollgbcaa
