/- strings.IndexByte, strings.Cut, strings.Split by the shelf's contracts. -/
import Derived.Test.YtjcbohpemfmpiaaDoorProg
import Derived.Shelf.Small.Strs
import Derived.Shelf.Strings.Cut
import Derived.Shelf.Strings.Split
import Derived.KernelRfl
namespace Go.Proofs.YtjcbohpemfmpiaaDoor.headLong
set_option linter.unusedVariables false
set_option linter.unusedSimpArgs false
open Go.Proofs
def ren137 : Shelf.Ren := { f := fun x => match x with | 137 => 53 | 217 => 68 | 266 => 75 | _ => 0, t := fun x => match x with | 3 => 3 | 5 => 5 | 9 => 9 | _ => 0, g := fun x => match x with  | _ => 0 }
theorem lay137 : Go.Proofs.Lays.n137 Go.Proofs.Tryd.prog ren137 where
  mixed := by kernel_rfl
  f137 := Go.Proofs.Tryd.func53.trans (by kernel_rfl)
  f217 := Go.Proofs.Tryd.func68.trans (by kernel_rfl)
  f266 := Go.Proofs.Tryd.func75.trans (by kernel_rfl)
  t3 := Go.Proofs.Tryd.underlying3
  a3 := Go.Proofs.Tryd.isAgg3
  z3 := Go.Proofs.Tryd.sizeOf3
  v3 := Go.Proofs.Tryd.zeroValue3
  t5 := Go.Proofs.Tryd.underlying5
  a5 := Go.Proofs.Tryd.isAgg5
  z5 := Go.Proofs.Tryd.sizeOf5
  v5 := Go.Proofs.Tryd.zeroValue5
  t9 := Go.Proofs.Tryd.underlying9
  a9 := Go.Proofs.Tryd.isAgg9
  z9 := Go.Proofs.Tryd.sizeOf9
  v9 := Go.Proofs.Tryd.zeroValue9

def ren145 : Shelf.Ren := { f := fun x => match x with | 145 => 39 | 217 => 68 | 219 => 69 | 220 => 54 | 224 => 77 | 225 => 76 | 266 => 75 | 267 => 78 | 314 => 80 | _ => 0, t := fun x => match x with | 3 => 3 | 4 => 4 | 5 => 5 | 9 => 9 | 46 => 91 | 51 => 88 | 59 => 62 | 146 => 101 | _ => 0, g := fun x => match x with | 1 => 1 | _ => 0 }
theorem lay145 : Go.Proofs.Lays.n145 Go.Proofs.Tryd.prog ren145 where
  mixed := by kernel_rfl
  f145 := Go.Proofs.Tryd.func39.trans (by kernel_rfl)
  f217 := Go.Proofs.Tryd.func68.trans (by kernel_rfl)
  f219 := Go.Proofs.Tryd.func69.trans (by kernel_rfl)
  f220 := Go.Proofs.Tryd.func54.trans (by kernel_rfl)
  f224 := Go.Proofs.Tryd.func77.trans (by kernel_rfl)
  f225 := Go.Proofs.Tryd.func76.trans (by kernel_rfl)
  f266 := Go.Proofs.Tryd.func75.trans (by kernel_rfl)
  f267 := Go.Proofs.Tryd.func78.trans (by kernel_rfl)
  f314 := Go.Proofs.Tryd.func80.trans (by kernel_rfl)
  t3 := Go.Proofs.Tryd.underlying3
  a3 := Go.Proofs.Tryd.isAgg3
  z3 := Go.Proofs.Tryd.sizeOf3
  v3 := Go.Proofs.Tryd.zeroValue3
  t4 := Go.Proofs.Tryd.underlying4
  a4 := Go.Proofs.Tryd.isAgg4
  z4 := Go.Proofs.Tryd.sizeOf4
  v4 := Go.Proofs.Tryd.zeroValue4
  t5 := Go.Proofs.Tryd.underlying5
  a5 := Go.Proofs.Tryd.isAgg5
  z5 := Go.Proofs.Tryd.sizeOf5
  v5 := Go.Proofs.Tryd.zeroValue5
  t9 := Go.Proofs.Tryd.underlying9
  a9 := Go.Proofs.Tryd.isAgg9
  z9 := Go.Proofs.Tryd.sizeOf9
  v9 := Go.Proofs.Tryd.zeroValue9
  t46 := Go.Proofs.Tryd.underlying91
  a46 := Go.Proofs.Tryd.isAgg91
  z46 := Go.Proofs.Tryd.sizeOf91
  v46 := Go.Proofs.Tryd.zeroValue91
  t51 := Go.Proofs.Tryd.underlying88
  a51 := Go.Proofs.Tryd.isAgg88
  z51 := Go.Proofs.Tryd.sizeOf88
  v51 := Go.Proofs.Tryd.zeroValue88
  t59 := Go.Proofs.Tryd.underlying62
  a59 := Go.Proofs.Tryd.isAgg62
  z59 := Go.Proofs.Tryd.sizeOf62
  v59 := Go.Proofs.Tryd.zeroValue62
  t146 := Go.Proofs.Tryd.underlying101
  a146 := Go.Proofs.Tryd.isAgg101
  z146 := Go.Proofs.Tryd.sizeOf101
  v146 := Go.Proofs.Tryd.zeroValue101
  g1 := by kernel_rfl

def ren146 : Shelf.Ren := { f := fun x => match x with | 138 => 66 | 143 => 67 | 146 => 36 | 195 => 72 | 197 => 73 | 217 => 68 | 218 => 74 | 219 => 69 | 221 => 51 | 224 => 77 | 225 => 76 | 260 => 79 | 266 => 75 | 267 => 78 | 268 => 65 | 314 => 80 | _ => 0, t := fun x => match x with | 0 => 0 | 3 => 3 | 4 => 4 | 5 => 5 | 9 => 9 | 21 => 21 | 31 => 32 | 46 => 91 | 51 => 88 | 105 => 97 | 119 => 103 | 138 => 105 | 139 => 106 | 146 => 101 | _ => 0, g := fun x => match x with | 1 => 1 | 3 => 4 | 4 => 5 | _ => 0 }
theorem lay146 : Go.Proofs.Lays.n146 Go.Proofs.Tryd.prog ren146 where
  mixed := by kernel_rfl
  f138 := Go.Proofs.Tryd.func66.trans (by kernel_rfl)
  f143 := Go.Proofs.Tryd.func67.trans (by kernel_rfl)
  f146 := Go.Proofs.Tryd.func36.trans (by kernel_rfl)
  f195 := Go.Proofs.Tryd.func72.trans (by kernel_rfl)
  f197 := Go.Proofs.Tryd.func73.trans (by kernel_rfl)
  f217 := Go.Proofs.Tryd.func68.trans (by kernel_rfl)
  f218 := Go.Proofs.Tryd.func74.trans (by kernel_rfl)
  f219 := Go.Proofs.Tryd.func69.trans (by kernel_rfl)
  f221 := Go.Proofs.Tryd.func51.trans (by kernel_rfl)
  f224 := Go.Proofs.Tryd.func77.trans (by kernel_rfl)
  f225 := Go.Proofs.Tryd.func76.trans (by kernel_rfl)
  f260 := Go.Proofs.Tryd.func79.trans (by kernel_rfl)
  f266 := Go.Proofs.Tryd.func75.trans (by kernel_rfl)
  f267 := Go.Proofs.Tryd.func78.trans (by kernel_rfl)
  f268 := Go.Proofs.Tryd.func65.trans (by kernel_rfl)
  f314 := Go.Proofs.Tryd.func80.trans (by kernel_rfl)
  t0 := Go.Proofs.Tryd.underlying0
  a0 := Go.Proofs.Tryd.isAgg0
  z0 := Go.Proofs.Tryd.sizeOf0
  v0 := Go.Proofs.Tryd.zeroValue0
  t3 := Go.Proofs.Tryd.underlying3
  a3 := Go.Proofs.Tryd.isAgg3
  z3 := Go.Proofs.Tryd.sizeOf3
  v3 := Go.Proofs.Tryd.zeroValue3
  t4 := Go.Proofs.Tryd.underlying4
  a4 := Go.Proofs.Tryd.isAgg4
  z4 := Go.Proofs.Tryd.sizeOf4
  v4 := Go.Proofs.Tryd.zeroValue4
  t5 := Go.Proofs.Tryd.underlying5
  a5 := Go.Proofs.Tryd.isAgg5
  z5 := Go.Proofs.Tryd.sizeOf5
  v5 := Go.Proofs.Tryd.zeroValue5
  t9 := Go.Proofs.Tryd.underlying9
  a9 := Go.Proofs.Tryd.isAgg9
  z9 := Go.Proofs.Tryd.sizeOf9
  v9 := Go.Proofs.Tryd.zeroValue9
  t21 := Go.Proofs.Tryd.underlying21
  a21 := Go.Proofs.Tryd.isAgg21
  z21 := Go.Proofs.Tryd.sizeOf21
  v21 := Go.Proofs.Tryd.zeroValue21
  t31 := Go.Proofs.Tryd.underlying32
  a31 := Go.Proofs.Tryd.isAgg32
  z31 := Go.Proofs.Tryd.sizeOf32
  v31 := Go.Proofs.Tryd.zeroValue32
  t46 := Go.Proofs.Tryd.underlying91
  a46 := Go.Proofs.Tryd.isAgg91
  z46 := Go.Proofs.Tryd.sizeOf91
  v46 := Go.Proofs.Tryd.zeroValue91
  t51 := Go.Proofs.Tryd.underlying88
  a51 := Go.Proofs.Tryd.isAgg88
  z51 := Go.Proofs.Tryd.sizeOf88
  v51 := Go.Proofs.Tryd.zeroValue88
  t105 := Go.Proofs.Tryd.underlying97
  a105 := Go.Proofs.Tryd.isAgg97
  z105 := Go.Proofs.Tryd.sizeOf97
  v105 := Go.Proofs.Tryd.zeroValue97
  t119 := Go.Proofs.Tryd.underlying103
  a119 := Go.Proofs.Tryd.isAgg103
  z119 := Go.Proofs.Tryd.sizeOf103
  t138 := Go.Proofs.Tryd.underlying105
  a138 := Go.Proofs.Tryd.isAgg105
  z138 := Go.Proofs.Tryd.sizeOf105
  v138 := Go.Proofs.Tryd.zeroValue105
  t139 := Go.Proofs.Tryd.underlying106
  a139 := Go.Proofs.Tryd.isAgg106
  z139 := Go.Proofs.Tryd.sizeOf106
  v139 := Go.Proofs.Tryd.zeroValue106
  t146 := Go.Proofs.Tryd.underlying101
  a146 := Go.Proofs.Tryd.isAgg101
  z146 := Go.Proofs.Tryd.sizeOf101
  v146 := Go.Proofs.Tryd.zeroValue101
  g1 := by kernel_rfl
  g3 := by kernel_rfl
  g4 := by kernel_rfl

theorem lib_IndexByte (s : ByteArray) (c : Int) (w : World) : Calls Tryd.prog 53 #[.string s, .int .u8 c] w fun e w' => e = .returned (.int .i64 (Lib.indexByte s.data.toList c.toNat.toUInt8)) ∧ w' = w := Any.strings_IndexByte lay137 s c w
theorem lib_Cut (s sep : ByteArray) (m : Int) (w : World) (hs : s.size < 4294967281) (hm : w.cell? ⟨1, 0, none⟩ = some (.int .i64 m)) :
    Calls Tryd.prog 39 #[.string s, .string sep] w fun e w' => e = .returned (.tuple #[.string ⟨(Lib.cut s.data.toList sep.data.toList).1.toArray⟩, .string ⟨(Lib.cut s.data.toList sep.data.toList).2.1.toArray⟩, .bool (Lib.cut s.data.toList sep.data.toList).2.2]) ∧ ∃ n, w' = w.drewN n := Any.strings_Cut lay145 s sep m w hs hm
theorem lib_Split (s sep : ByteArray) (m : Int) (w : World) (hs : s.size < 4294967281) (hm : w.cell? ⟨1, 0, none⟩ = some (.int .i64 m)) (h1 : 1 ≤ sep.size) :
    Calls Tryd.prog 36 #[.string s, .string sep] w fun e w' =>
      e = .returned (.slice (some ⟨w.heap.size, 0, none⟩) (Lib.countB s sep + 1) (Lib.countB s sep + 1)) ∧ w' = w.alloc (.cells ((Lib.splitB sep 0 (Lib.countB s sep) s).map Value.string).toArray 9) := Any.strings_Split lay146 (by kernel_rfl) s sep m w hs hm h1
end Go.Proofs.YtjcbohpemfmpiaaDoor.headLong
