/- What is run of FillLate: a length, some places. -/
import Derived.Test.YtnelgnghdioapaaGreatDoorLV
import Derived.KernelRfl
namespace Go.Ev.YtnelgnghdioapaaGreatDoor
open Go Go.Ev
set_option maxRecDepth 100000
noncomputable def latQ (n p:V):Bool := S8 (Od (FE tab 100) (some xc3) [n, p] AV XD)
def LatOK (n p:Nat):Prop := ∃ lo hi, lo≤p∧p≤hi∧hi<9223372036854775808∧latQ (.int .i64 n) (.oth (.iv .i64 lo hi))=true
end Go.Ev.YtnelgnghdioapaaGreatDoor
