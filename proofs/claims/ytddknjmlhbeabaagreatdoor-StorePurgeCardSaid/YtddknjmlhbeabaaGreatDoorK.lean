/- slices.SortFunc of keys, and the closure that recent.All sorts by. Conditions: none of its own; each theorem bears its premises. -/
import Derived.Test.YtddknjmlhbeabaaGreatDoorProg
import Derived.Test.YtddknjmlhbeabaaGreatDoorEv5
import Derived.Shelf.SlSortCmp.NoneTotal
import Derived.WalkKit
import Derived.KernelRfl
import Derived.Deep.QuietTactic
import Derived.BigQuiet
namespace Go.Ev.YtddknjmlhbeabaaGreatDoor
open Go Go.Ev Go.RowKit
set_option linter.unusedVariables false
def fren : Shelf.Ren := { f := fun x => match x with | 6 => 251 | 14 => 269 | 15 => 130 | 20 => 280 | 21 => 281 | 22 => 282 | 23 => 283 | 24 => 284 | 25 => 285 | 26 => 286 | 27 => 287 | 28 => 182 | 29 => 183 | 46 => 292 | 47 => 234 | 48 => 235 | 49 => 293 | 50 => 294 | 57 => 296 | _ => 0, t := fun x => match x with | 0 => 0 | 3 => 3 | 4 => 4 | 5 => 5 | 9 => 9 | 22 => 309 | 24 => 133 | 25 => 314 | 39 => 225 | 45 => 281 | 46 => 282 | 50 => 287 | 53 => 29 | 55 => 32 | 66 => 330 | 70 => 334 | 76 => 352 | 77 => 353 | _ => 0, g := fun _ => 0 }
theorem flay : Go.Proofs.SlLaysF0.n6 Go.Proofs.Tryz.prog fren where
  mixed := by kernel_rfl
  f6 := ⟨Go.Proofs.Tryz.f251.name, of_decide_eq_true (by kernel_rfl), Go.Proofs.Tryz.func251.trans (by kernel_rfl)⟩
  f14 := ⟨Go.Proofs.Tryz.f269.name, of_decide_eq_true (by kernel_rfl), Go.Proofs.Tryz.func269.trans (by kernel_rfl)⟩
  f15 := Go.Proofs.Tryz.func130.trans (by kernel_rfl)
  f20 := ⟨Go.Proofs.Tryz.f280.name, of_decide_eq_true (by kernel_rfl), Go.Proofs.Tryz.func280.trans (by kernel_rfl)⟩
  f21 := ⟨Go.Proofs.Tryz.f281.name, of_decide_eq_true (by kernel_rfl), Go.Proofs.Tryz.func281.trans (by kernel_rfl)⟩
  f22 := ⟨Go.Proofs.Tryz.f282.name, of_decide_eq_true (by kernel_rfl), Go.Proofs.Tryz.func282.trans (by kernel_rfl)⟩
  f23 := ⟨Go.Proofs.Tryz.f283.name, of_decide_eq_true (by kernel_rfl), Go.Proofs.Tryz.func283.trans (by kernel_rfl)⟩
  f24 := ⟨Go.Proofs.Tryz.f284.name, of_decide_eq_true (by kernel_rfl), Go.Proofs.Tryz.func284.trans (by kernel_rfl)⟩
  f25 := ⟨Go.Proofs.Tryz.f285.name, of_decide_eq_true (by kernel_rfl), Go.Proofs.Tryz.func285.trans (by kernel_rfl)⟩
  f26 := ⟨Go.Proofs.Tryz.f286.name, of_decide_eq_true (by kernel_rfl), Go.Proofs.Tryz.func286.trans (by kernel_rfl)⟩
  f27 := ⟨Go.Proofs.Tryz.f287.name, of_decide_eq_true (by kernel_rfl), Go.Proofs.Tryz.func287.trans (by kernel_rfl)⟩
  f28 := Go.Proofs.Tryz.func182.trans (by kernel_rfl)
  f29 := Go.Proofs.Tryz.func183.trans (by kernel_rfl)
  f46 := ⟨Go.Proofs.Tryz.f292.name, of_decide_eq_true (by kernel_rfl), Go.Proofs.Tryz.func292.trans (by kernel_rfl)⟩
  f47 := Go.Proofs.Tryz.func234.trans (by kernel_rfl)
  f48 := Go.Proofs.Tryz.func235.trans (by kernel_rfl)
  f49 := ⟨Go.Proofs.Tryz.f293.name, of_decide_eq_true (by kernel_rfl), Go.Proofs.Tryz.func293.trans (by kernel_rfl)⟩
  f50 := ⟨Go.Proofs.Tryz.f294.name, of_decide_eq_true (by kernel_rfl), Go.Proofs.Tryz.func294.trans (by kernel_rfl)⟩
  f57 := ⟨Go.Proofs.Tryz.f296.name, of_decide_eq_true (by kernel_rfl), Go.Proofs.Tryz.func296.trans (by kernel_rfl)⟩
  t0 := Go.Proofs.Tryz.underlying0
  a0 := Go.Proofs.Tryz.isAgg0
  z0 := Go.Proofs.Tryz.sizeOf0
  v0 := Go.Proofs.Tryz.zeroValue0
  t3 := Go.Proofs.Tryz.underlying3
  a3 := Go.Proofs.Tryz.isAgg3
  z3 := Go.Proofs.Tryz.sizeOf3
  v3 := Go.Proofs.Tryz.zeroValue3
  t4 := Go.Proofs.Tryz.underlying4
  a4 := Go.Proofs.Tryz.isAgg4
  z4 := Go.Proofs.Tryz.sizeOf4
  v4 := Go.Proofs.Tryz.zeroValue4
  t5 := Go.Proofs.Tryz.underlying5
  a5 := Go.Proofs.Tryz.isAgg5
  z5 := Go.Proofs.Tryz.sizeOf5
  v5 := Go.Proofs.Tryz.zeroValue5
  t9 := Go.Proofs.Tryz.underlying9
  a9 := Go.Proofs.Tryz.isAgg9
  z9 := Go.Proofs.Tryz.sizeOf9
  v9 := Go.Proofs.Tryz.zeroValue9
  t22 := Go.Proofs.Tryz.underlying309
  a22 := Go.Proofs.Tryz.isAgg309
  z22 := Go.Proofs.Tryz.sizeOf309
  v22 := Go.Proofs.Tryz.zeroValue309
  t25 := Go.Proofs.Tryz.underlying314
  a25 := Go.Proofs.Tryz.isAgg314
  z25 := Go.Proofs.Tryz.sizeOf314
  v25 := Go.Proofs.Tryz.zeroValue314
  t39 := Go.Proofs.Tryz.underlying225
  a39 := Go.Proofs.Tryz.isAgg225
  z39 := Go.Proofs.Tryz.sizeOf225
  v39 := Go.Proofs.Tryz.zeroValue225
  t45 := Go.Proofs.Tryz.underlying281
  a45 := Go.Proofs.Tryz.isAgg281
  z45 := Go.Proofs.Tryz.sizeOf281
  v45 := Go.Proofs.Tryz.zeroValue281
  t46 := Go.Proofs.Tryz.underlying282
  a46 := Go.Proofs.Tryz.isAgg282
  z46 := Go.Proofs.Tryz.sizeOf282
  v46 := Go.Proofs.Tryz.zeroValue282
  t50 := Go.Proofs.Tryz.underlying287
  a50 := Go.Proofs.Tryz.isAgg287
  z50 := Go.Proofs.Tryz.sizeOf287
  v50 := Go.Proofs.Tryz.zeroValue287
  t53 := Go.Proofs.Tryz.underlying29
  a53 := Go.Proofs.Tryz.isAgg29
  z53 := Go.Proofs.Tryz.sizeOf29
  v53 := Go.Proofs.Tryz.zeroValue29
  t55 := Go.Proofs.Tryz.underlying32
  a55 := Go.Proofs.Tryz.isAgg32
  z55 := Go.Proofs.Tryz.sizeOf32
  v55 := Go.Proofs.Tryz.zeroValue32
  t66 := Go.Proofs.Tryz.underlying330
  a66 := Go.Proofs.Tryz.isAgg330
  z66 := Go.Proofs.Tryz.sizeOf330
  v66 := Go.Proofs.Tryz.zeroValue330
  t70 := Go.Proofs.Tryz.underlying334
  a70 := Go.Proofs.Tryz.isAgg334
  z70 := Go.Proofs.Tryz.sizeOf334
  v70 := Go.Proofs.Tryz.zeroValue334
  t76 := Go.Proofs.Tryz.underlying352
  a76 := Go.Proofs.Tryz.isAgg352
  z76 := Go.Proofs.Tryz.sizeOf352
  v76 := Go.Proofs.Tryz.zeroValue352
  t77 := Go.Proofs.Tryz.underlying353
  a77 := Go.Proofs.Tryz.isAgg353
  z77 := Go.Proofs.Tryz.sizeOf353
  v77 := Go.Proofs.Tryz.zeroValue353
theorem sortf251 : SortFnK Go.Proofs.Tryz.prog 251 := fun α _ enc hk h1 cf hO g cb blk off cap d w eg hcmp hH hblk hsz => Go.Proofs.AnyQ.slices_SortFunc flay 2 Go.Proofs.Tryz.isAgg133 Go.Proofs.Tryz.sizeOf133 enc hk h1 cf hO g cb blk off cap d w eg hcmp hH hblk hsz
theorem sortn251 : SortNilK Go.Proofs.Tryz.prog 251 := fun p cap fv w => Go.Proofs.AnyF.slices_SortFunc_none flay p cap fv w
theorem cmp214 : CmpFnK Go.Proofs.Tryz.prog 214 174 := by
  intro bz oz bl ol bm O ta tb sa sb ua ub W hz hl hm b1 b2 b3 hA hB h1 h2
  go_enter Go.Proofs.Tryz.func214, Go.Proofs.Tryz.ntmps214
  go_wp2
  have hm2 : ∀ n, (((W.alloc (Obj.cells #[Value.int IntKind.u32 ta, Value.string sa] 133)).alloc (Obj.cells #[Value.int IntKind.u32 tb, Value.string sb] 133)).drewN n).heap[bm]? = some O := by
    intro n
    show ((W.heap.push _).push _)[bm]? = some O
    rw [Array.getElem?_push, Array.getElem?_push]
    rw [if_neg (by simp; omega), if_neg (by omega), hm]
  have hA' := fun n => hA _ (hm2 n)
  have hB' := fun n => hB _ (hm2 n)
  clear hA hB
  go_quiet ((first | (rw [hA']; exact ⟨rfl, rfl⟩) | (rw [hB']; exact ⟨rfl, rfl⟩)))
  go_wp2
  go_ret
  exact ⟨rfl, nq, #[Obj.cells #[Value.int IntKind.u32 ta, Value.string sa] 133, Obj.cells #[Value.int IntKind.u32 tb, Value.string sb] 133], by
    rw [Go.Sort.alloc_eq_grow, Go.Sort.alloc_eq_grow, Go.Sort.grow_grow]; rfl⟩
end Go.Ev.YtddknjmlhbeabaaGreatDoor
