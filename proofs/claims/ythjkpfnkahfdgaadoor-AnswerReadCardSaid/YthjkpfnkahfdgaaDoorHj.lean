/- strings.IndexByte, strings.Cut, strings.Split by the shelf's contracts. -/
import Derived.Test.YthjkpfnkahfdgaaDoorProg
import Derived.Shelf.Small.Strs
import Derived.Shelf.Strings.Cut
import Derived.Shelf.Strings.Split
import Derived.KernelRfl
namespace Go.Proofs.YthjkpfnkahfdgaaDoor.answerRead
set_option linter.unusedVariables false
set_option linter.unusedSimpArgs false
open Go.Proofs
def ren137 : Shelf.Ren := { f := fun x => match x with | 137 => 32 | 217 => 39 | 266 => 48 | _ => 0, t := fun x => match x with | 3 => 3 | 5 => 5 | 9 => 9 | _ => 0, g := fun x => match x with  | _ => 0 }
theorem lay137 : Go.Proofs.Lays.n137 Go.Proofs.Tryd.prog ren137 where
  mixed := by kernel_rfl
  f137 := Go.Proofs.Tryd.func32.trans (by kernel_rfl)
  f217 := Go.Proofs.Tryd.func39.trans (by kernel_rfl)
  f266 := Go.Proofs.Tryd.func48.trans (by kernel_rfl)
  t3 := Go.Proofs.Tryd.underlying3
  a3 := Go.Proofs.Tryd.isAgg3
  z3 := Go.Proofs.Tryd.sizeOf3
  v3 := Go.Proofs.Tryd.zeroValue3
  t5 := Go.Proofs.Tryd.underlying5
  a5 := Go.Proofs.Tryd.isAgg5
  z5 := Go.Proofs.Tryd.sizeOf5
  v5 := Go.Proofs.Tryd.zeroValue5
  t9 := Go.Proofs.Tryd.underlying9
  a9 := Go.Proofs.Tryd.isAgg9
  z9 := Go.Proofs.Tryd.sizeOf9
  v9 := Go.Proofs.Tryd.zeroValue9

def ren145 : Shelf.Ren := { f := fun x => match x with | 145 => 17 | 217 => 39 | 219 => 35 | 220 => 27 | 224 => 43 | 225 => 42 | 266 => 48 | 267 => 44 | 314 => 53 | _ => 0, t := fun x => match x with | 3 => 3 | 4 => 4 | 5 => 5 | 9 => 9 | 46 => 53 | 51 => 63 | 59 => 37 | 146 => 64 | _ => 0, g := fun x => match x with | 1 => 0 | _ => 0 }
theorem lay145 : Go.Proofs.Lays.n145 Go.Proofs.Tryd.prog ren145 where
  mixed := by kernel_rfl
  f145 := Go.Proofs.Tryd.func17.trans (by kernel_rfl)
  f217 := Go.Proofs.Tryd.func39.trans (by kernel_rfl)
  f219 := Go.Proofs.Tryd.func35.trans (by kernel_rfl)
  f220 := Go.Proofs.Tryd.func27.trans (by kernel_rfl)
  f224 := Go.Proofs.Tryd.func43.trans (by kernel_rfl)
  f225 := Go.Proofs.Tryd.func42.trans (by kernel_rfl)
  f266 := Go.Proofs.Tryd.func48.trans (by kernel_rfl)
  f267 := Go.Proofs.Tryd.func44.trans (by kernel_rfl)
  f314 := Go.Proofs.Tryd.func53.trans (by kernel_rfl)
  t3 := Go.Proofs.Tryd.underlying3
  a3 := Go.Proofs.Tryd.isAgg3
  z3 := Go.Proofs.Tryd.sizeOf3
  v3 := Go.Proofs.Tryd.zeroValue3
  t4 := Go.Proofs.Tryd.underlying4
  a4 := Go.Proofs.Tryd.isAgg4
  z4 := Go.Proofs.Tryd.sizeOf4
  v4 := Go.Proofs.Tryd.zeroValue4
  t5 := Go.Proofs.Tryd.underlying5
  a5 := Go.Proofs.Tryd.isAgg5
  z5 := Go.Proofs.Tryd.sizeOf5
  v5 := Go.Proofs.Tryd.zeroValue5
  t9 := Go.Proofs.Tryd.underlying9
  a9 := Go.Proofs.Tryd.isAgg9
  z9 := Go.Proofs.Tryd.sizeOf9
  v9 := Go.Proofs.Tryd.zeroValue9
  t46 := Go.Proofs.Tryd.underlying53
  a46 := Go.Proofs.Tryd.isAgg53
  z46 := Go.Proofs.Tryd.sizeOf53
  v46 := Go.Proofs.Tryd.zeroValue53
  t51 := Go.Proofs.Tryd.underlying63
  a51 := Go.Proofs.Tryd.isAgg63
  z51 := Go.Proofs.Tryd.sizeOf63
  v51 := Go.Proofs.Tryd.zeroValue63
  t59 := Go.Proofs.Tryd.underlying37
  a59 := Go.Proofs.Tryd.isAgg37
  z59 := Go.Proofs.Tryd.sizeOf37
  v59 := Go.Proofs.Tryd.zeroValue37
  t146 := Go.Proofs.Tryd.underlying64
  a146 := Go.Proofs.Tryd.isAgg64
  z146 := Go.Proofs.Tryd.sizeOf64
  v146 := Go.Proofs.Tryd.zeroValue64
  g1 := by kernel_rfl

def ren146 : Shelf.Ren := { f := fun x => match x with | 138 => 37 | 143 => 38 | 146 => 18 | 195 => 45 | 197 => 46 | 217 => 39 | 218 => 47 | 219 => 35 | 221 => 28 | 224 => 43 | 225 => 42 | 260 => 54 | 266 => 48 | 267 => 44 | 268 => 36 | 314 => 53 | _ => 0, t := fun x => match x with | 0 => 0 | 3 => 3 | 4 => 4 | 5 => 5 | 9 => 9 | 21 => 21 | 31 => 31 | 46 => 53 | 51 => 63 | 105 => 55 | 119 => 71 | 138 => 73 | 139 => 74 | 146 => 64 | _ => 0, g := fun x => match x with | 1 => 0 | 3 => 2 | 4 => 3 | _ => 0 }
theorem lay146 : Go.Proofs.Lays.n146 Go.Proofs.Tryd.prog ren146 where
  mixed := by kernel_rfl
  f138 := Go.Proofs.Tryd.func37.trans (by kernel_rfl)
  f143 := Go.Proofs.Tryd.func38.trans (by kernel_rfl)
  f146 := Go.Proofs.Tryd.func18.trans (by kernel_rfl)
  f195 := Go.Proofs.Tryd.func45.trans (by kernel_rfl)
  f197 := Go.Proofs.Tryd.func46.trans (by kernel_rfl)
  f217 := Go.Proofs.Tryd.func39.trans (by kernel_rfl)
  f218 := Go.Proofs.Tryd.func47.trans (by kernel_rfl)
  f219 := Go.Proofs.Tryd.func35.trans (by kernel_rfl)
  f221 := Go.Proofs.Tryd.func28.trans (by kernel_rfl)
  f224 := Go.Proofs.Tryd.func43.trans (by kernel_rfl)
  f225 := Go.Proofs.Tryd.func42.trans (by kernel_rfl)
  f260 := Go.Proofs.Tryd.func54.trans (by kernel_rfl)
  f266 := Go.Proofs.Tryd.func48.trans (by kernel_rfl)
  f267 := Go.Proofs.Tryd.func44.trans (by kernel_rfl)
  f268 := Go.Proofs.Tryd.func36.trans (by kernel_rfl)
  f314 := Go.Proofs.Tryd.func53.trans (by kernel_rfl)
  t0 := Go.Proofs.Tryd.underlying0
  a0 := Go.Proofs.Tryd.isAgg0
  z0 := Go.Proofs.Tryd.sizeOf0
  v0 := Go.Proofs.Tryd.zeroValue0
  t3 := Go.Proofs.Tryd.underlying3
  a3 := Go.Proofs.Tryd.isAgg3
  z3 := Go.Proofs.Tryd.sizeOf3
  v3 := Go.Proofs.Tryd.zeroValue3
  t4 := Go.Proofs.Tryd.underlying4
  a4 := Go.Proofs.Tryd.isAgg4
  z4 := Go.Proofs.Tryd.sizeOf4
  v4 := Go.Proofs.Tryd.zeroValue4
  t5 := Go.Proofs.Tryd.underlying5
  a5 := Go.Proofs.Tryd.isAgg5
  z5 := Go.Proofs.Tryd.sizeOf5
  v5 := Go.Proofs.Tryd.zeroValue5
  t9 := Go.Proofs.Tryd.underlying9
  a9 := Go.Proofs.Tryd.isAgg9
  z9 := Go.Proofs.Tryd.sizeOf9
  v9 := Go.Proofs.Tryd.zeroValue9
  t21 := Go.Proofs.Tryd.underlying21
  a21 := Go.Proofs.Tryd.isAgg21
  z21 := Go.Proofs.Tryd.sizeOf21
  v21 := Go.Proofs.Tryd.zeroValue21
  t31 := Go.Proofs.Tryd.underlying31
  a31 := Go.Proofs.Tryd.isAgg31
  z31 := Go.Proofs.Tryd.sizeOf31
  v31 := Go.Proofs.Tryd.zeroValue31
  t46 := Go.Proofs.Tryd.underlying53
  a46 := Go.Proofs.Tryd.isAgg53
  z46 := Go.Proofs.Tryd.sizeOf53
  v46 := Go.Proofs.Tryd.zeroValue53
  t51 := Go.Proofs.Tryd.underlying63
  a51 := Go.Proofs.Tryd.isAgg63
  z51 := Go.Proofs.Tryd.sizeOf63
  v51 := Go.Proofs.Tryd.zeroValue63
  t105 := Go.Proofs.Tryd.underlying55
  a105 := Go.Proofs.Tryd.isAgg55
  z105 := Go.Proofs.Tryd.sizeOf55
  v105 := Go.Proofs.Tryd.zeroValue55
  t119 := Go.Proofs.Tryd.underlying71
  a119 := Go.Proofs.Tryd.isAgg71
  z119 := Go.Proofs.Tryd.sizeOf71
  t138 := Go.Proofs.Tryd.underlying73
  a138 := Go.Proofs.Tryd.isAgg73
  z138 := Go.Proofs.Tryd.sizeOf73
  v138 := Go.Proofs.Tryd.zeroValue73
  t139 := Go.Proofs.Tryd.underlying74
  a139 := Go.Proofs.Tryd.isAgg74
  z139 := Go.Proofs.Tryd.sizeOf74
  v139 := Go.Proofs.Tryd.zeroValue74
  t146 := Go.Proofs.Tryd.underlying64
  a146 := Go.Proofs.Tryd.isAgg64
  z146 := Go.Proofs.Tryd.sizeOf64
  v146 := Go.Proofs.Tryd.zeroValue64
  g1 := by kernel_rfl
  g3 := by kernel_rfl
  g4 := by kernel_rfl

theorem lib_IndexByte (s : ByteArray) (c : Int) (w : World) : Calls Tryd.prog 32 #[.string s, .int .u8 c] w fun e w' => e = .returned (.int .i64 (Lib.indexByte s.data.toList c.toNat.toUInt8)) ∧ w' = w := Any.strings_IndexByte lay137 s c w
theorem lib_Cut (s sep : ByteArray) (m : Int) (w : World) (hs : s.size < 4294967281) (hm : w.cell? ⟨0, 0, none⟩ = some (.int .i64 m)) :
    Calls Tryd.prog 17 #[.string s, .string sep] w fun e w' => e = .returned (.tuple #[.string ⟨(Lib.cut s.data.toList sep.data.toList).1.toArray⟩, .string ⟨(Lib.cut s.data.toList sep.data.toList).2.1.toArray⟩, .bool (Lib.cut s.data.toList sep.data.toList).2.2]) ∧ ∃ n, w' = w.drewN n := Any.strings_Cut lay145 s sep m w hs hm
theorem lib_Split (s sep : ByteArray) (m : Int) (w : World) (hs : s.size < 4294967281) (hm : w.cell? ⟨0, 0, none⟩ = some (.int .i64 m)) (h1 : 1 ≤ sep.size) :
    Calls Tryd.prog 18 #[.string s, .string sep] w fun e w' =>
      e = .returned (.slice (some ⟨w.heap.size, 0, none⟩) (Lib.countB s sep + 1) (Lib.countB s sep + 1)) ∧ w' = w.alloc (.cells ((Lib.splitB sep 0 (Lib.countB s sep) s).map Value.string).toArray 9) := Any.strings_Split lay146 (by kernel_rfl) s sep m w hs hm h1
end Go.Proofs.YthjkpfnkahfdgaaDoor.answerRead
