/- slices.SortFunc of keys, and the closure that recent.All sorts by. Conditions: none of its own; each theorem bears its premises. -/
import Derived.Test.YtnacbbemgocmcaaGreatDoorProg
import Derived.Test.YtnacbbemgocmcaaGreatDoorQEv5
import Derived.Shelf.SlSortCmp.NoneTotal
import Derived.WalkKit
import Derived.KernelRfl
import Derived.Deep.QuietTactic
import Derived.BigQuiet
namespace Go.Ev.YtnacbbemgocmcaaGreatDoor
open Go Go.Ev Go.RowKit
set_option linter.unusedVariables false
def fren:Shelf.Ren := { f := fun x => match x with | 6 => 421 | 14 => 471 | 15 => 168 | 20 => 495 | 21 => 496 | 22 => 497 | 23 => 498 | 24 => 499 | 25 => 500 | 26 => 501 | 27 => 502 | 28 => 258 | 29 => 259 | 46 => 512 | 47 => 330 | 48 => 331 | 49 => 513 | 50 => 514 | 57 => 525 | _ => 0, t := fun x => match x with | 0 => 0 | 3 => 3 | 4 => 4 | 5 => 5 | 9 => 9 | 22 => 479 | 24 => 232 | 25 => 484 | 39 => 297 | 45 => 378 | 46 => 379 | 50 => 383 | 53 => 49 | 55 => 146 | 66 => 449 | 70 => 453 | 76 => 515 | 77 => 516 | _ => 0, g := fun _ => 0 }
theorem flay:Go.Proofs.SlLaysF0.n6 Go.Proofs.Tryz.prog fren where
  mixed := by kernel_rfl
  f6 := ⟨Go.Proofs.Tryz.f421.name, of_decide_eq_true (by kernel_rfl), Go.Proofs.Tryz.func421.trans (by kernel_rfl)⟩
  f14 := ⟨Go.Proofs.Tryz.f471.name, of_decide_eq_true (by kernel_rfl), Go.Proofs.Tryz.func471.trans (by kernel_rfl)⟩
  f15 := Go.Proofs.Tryz.func168.trans (by kernel_rfl)
  f20 := ⟨Go.Proofs.Tryz.f495.name, of_decide_eq_true (by kernel_rfl), Go.Proofs.Tryz.func495.trans (by kernel_rfl)⟩
  f21 := ⟨Go.Proofs.Tryz.f496.name, of_decide_eq_true (by kernel_rfl), Go.Proofs.Tryz.func496.trans (by kernel_rfl)⟩
  f22 := ⟨Go.Proofs.Tryz.f497.name, of_decide_eq_true (by kernel_rfl), Go.Proofs.Tryz.func497.trans (by kernel_rfl)⟩
  f23 := ⟨Go.Proofs.Tryz.f498.name, of_decide_eq_true (by kernel_rfl), Go.Proofs.Tryz.func498.trans (by kernel_rfl)⟩
  f24 := ⟨Go.Proofs.Tryz.f499.name, of_decide_eq_true (by kernel_rfl), Go.Proofs.Tryz.func499.trans (by kernel_rfl)⟩
  f25 := ⟨Go.Proofs.Tryz.f500.name, of_decide_eq_true (by kernel_rfl), Go.Proofs.Tryz.func500.trans (by kernel_rfl)⟩
  f26 := ⟨Go.Proofs.Tryz.f501.name, of_decide_eq_true (by kernel_rfl), Go.Proofs.Tryz.func501.trans (by kernel_rfl)⟩
  f27 := ⟨Go.Proofs.Tryz.f502.name, of_decide_eq_true (by kernel_rfl), Go.Proofs.Tryz.func502.trans (by kernel_rfl)⟩
  f28 := Go.Proofs.Tryz.func258.trans (by kernel_rfl)
  f29 := Go.Proofs.Tryz.func259.trans (by kernel_rfl)
  f46 := ⟨Go.Proofs.Tryz.f512.name, of_decide_eq_true (by kernel_rfl), Go.Proofs.Tryz.func512.trans (by kernel_rfl)⟩
  f47 := Go.Proofs.Tryz.func330.trans (by kernel_rfl)
  f48 := Go.Proofs.Tryz.func331.trans (by kernel_rfl)
  f49 := ⟨Go.Proofs.Tryz.f513.name, of_decide_eq_true (by kernel_rfl), Go.Proofs.Tryz.func513.trans (by kernel_rfl)⟩
  f50 := ⟨Go.Proofs.Tryz.f514.name, of_decide_eq_true (by kernel_rfl), Go.Proofs.Tryz.func514.trans (by kernel_rfl)⟩
  f57 := ⟨Go.Proofs.Tryz.f525.name, of_decide_eq_true (by kernel_rfl), Go.Proofs.Tryz.func525.trans (by kernel_rfl)⟩
  t0 := Go.Proofs.Tryz.underlying0
  a0 := Go.Proofs.Tryz.isAgg0
  z0 := Go.Proofs.Tryz.sizeOf0
  v0 := Go.Proofs.Tryz.zeroValue0
  t3 := Go.Proofs.Tryz.underlying3
  a3 := Go.Proofs.Tryz.isAgg3
  z3 := Go.Proofs.Tryz.sizeOf3
  v3 := Go.Proofs.Tryz.zeroValue3
  t4 := Go.Proofs.Tryz.underlying4
  a4 := Go.Proofs.Tryz.isAgg4
  z4 := Go.Proofs.Tryz.sizeOf4
  v4 := Go.Proofs.Tryz.zeroValue4
  t5 := Go.Proofs.Tryz.underlying5
  a5 := Go.Proofs.Tryz.isAgg5
  z5 := Go.Proofs.Tryz.sizeOf5
  v5 := Go.Proofs.Tryz.zeroValue5
  t9 := Go.Proofs.Tryz.underlying9
  a9 := Go.Proofs.Tryz.isAgg9
  z9 := Go.Proofs.Tryz.sizeOf9
  v9 := Go.Proofs.Tryz.zeroValue9
  t22 := Go.Proofs.Tryz.underlying479
  a22 := Go.Proofs.Tryz.isAgg479
  z22 := Go.Proofs.Tryz.sizeOf479
  v22 := Go.Proofs.Tryz.zeroValue479
  t25 := Go.Proofs.Tryz.underlying484
  a25 := Go.Proofs.Tryz.isAgg484
  z25 := Go.Proofs.Tryz.sizeOf484
  v25 := Go.Proofs.Tryz.zeroValue484
  t39 := Go.Proofs.Tryz.underlying297
  a39 := Go.Proofs.Tryz.isAgg297
  z39 := Go.Proofs.Tryz.sizeOf297
  v39 := Go.Proofs.Tryz.zeroValue297
  t45 := Go.Proofs.Tryz.underlying378
  a45 := Go.Proofs.Tryz.isAgg378
  z45 := Go.Proofs.Tryz.sizeOf378
  v45 := Go.Proofs.Tryz.zeroValue378
  t46 := Go.Proofs.Tryz.underlying379
  a46 := Go.Proofs.Tryz.isAgg379
  z46 := Go.Proofs.Tryz.sizeOf379
  v46 := Go.Proofs.Tryz.zeroValue379
  t50 := Go.Proofs.Tryz.underlying383
  a50 := Go.Proofs.Tryz.isAgg383
  z50 := Go.Proofs.Tryz.sizeOf383
  v50 := Go.Proofs.Tryz.zeroValue383
  t53 := Go.Proofs.Tryz.underlying49
  a53 := Go.Proofs.Tryz.isAgg49
  z53 := Go.Proofs.Tryz.sizeOf49
  v53 := Go.Proofs.Tryz.zeroValue49
  t55 := Go.Proofs.Tryz.underlying146
  a55 := Go.Proofs.Tryz.isAgg146
  z55 := Go.Proofs.Tryz.sizeOf146
  v55 := Go.Proofs.Tryz.zeroValue146
  t66 := Go.Proofs.Tryz.underlying449
  a66 := Go.Proofs.Tryz.isAgg449
  z66 := Go.Proofs.Tryz.sizeOf449
  v66 := Go.Proofs.Tryz.zeroValue449
  t70 := Go.Proofs.Tryz.underlying453
  a70 := Go.Proofs.Tryz.isAgg453
  z70 := Go.Proofs.Tryz.sizeOf453
  v70 := Go.Proofs.Tryz.zeroValue453
  t76 := Go.Proofs.Tryz.underlying515
  a76 := Go.Proofs.Tryz.isAgg515
  z76 := Go.Proofs.Tryz.sizeOf515
  v76 := Go.Proofs.Tryz.zeroValue515
  t77 := Go.Proofs.Tryz.underlying516
  a77 := Go.Proofs.Tryz.isAgg516
  z77 := Go.Proofs.Tryz.sizeOf516
  v77 := Go.Proofs.Tryz.zeroValue516
theorem sortf421:NL Go.Proofs.Tryz.prog 421 := fun α _ enc hk h1 cf hO g cb blk off cap d w eg hcmp hH hblk hsz => Go.Proofs.AnyQ.slices_SortFunc flay 2 Go.Proofs.Tryz.isAgg232 Go.Proofs.Tryz.sizeOf232 enc hk h1 cf hO g cb blk off cap d w eg hcmp hH hblk hsz
theorem sortn421:Pw Go.Proofs.Tryz.prog 421 := fun p cap fv w => Go.Proofs.AnyF.slices_SortFunc_none flay p cap fv w
theorem cmp371:QJ Go.Proofs.Tryz.prog 371 199 := by
  intro bz oz bl ol bm O ta tb sa sb ua ub W hz hl hm b1 b2 b3 hA hB h1 h2
  go_enter Go.Proofs.Tryz.func371, Go.Proofs.Tryz.ntmps371
  go_wp2
  have hm2:∀ n, (((W.alloc (Obj.cells #[Value.int IntKind.u32 ta, Value.string sa] 232)).alloc (Obj.cells #[Value.int IntKind.u32 tb, Value.string sb] 232)).drewN n).heap[bm]? = some O := by
    intro n
    show ((W.heap.push _).push _)[bm]? = some O
    rw [Array.getElem?_push, Array.getElem?_push]
    rw [if_neg (by simp; omega), if_neg (by omega), hm]
  have hA' := fun n => hA _ (hm2 n)
  have hB' := fun n => hB _ (hm2 n)
  clear hA hB
  go_quiet ((first | (rw [hA']; exact ⟨rfl, rfl⟩) | (rw [hB']; exact ⟨rfl, rfl⟩)))
  go_wp2
  go_ret
  exact ⟨rfl, nq, #[Obj.cells #[Value.int IntKind.u32 ta, Value.string sa] 232, Obj.cells #[Value.int IntKind.u32 tb, Value.string sb] 232], by
    rw [Go.Sort.alloc_eq_grow, Go.Sort.alloc_eq_grow, Go.Sort.grow_grow]; rfl⟩
end Go.Ev.YtnacbbemgocmcaaGreatDoor
