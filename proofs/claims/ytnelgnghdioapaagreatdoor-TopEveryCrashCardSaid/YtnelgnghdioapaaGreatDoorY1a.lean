/- What is run of TopEveryCrash, 1 0. -/
import Derived.Test.YtnelgnghdioapaaGreatDoorCY
import Derived.KernelRfl
namespace Go.Ev.YtnelgnghdioapaaGreatDoor
open Go Go.Ev
set_option maxRecDepth 100000
theorem st_many:(fun K => goE [.oth (.iv .i64 0 18446744073709551615), .oth (.os 201 9223372036854775807), .oth (.iv .i64 0 18446744073709551615)] 0 K)=fun K => goB (K cfR (.mk (.mk (.oth (.iv .i64 0 18446744073709551615)) (.oth (.os 201 9223372036854775807)) (.oth (.iv .i64 0 18446744073709551615)) (.oth .any)) (.mk (.int .i64 0) (.oth .any) (.oth .any) (.oth .any)) (.mk (.oth .any) (.oth .any) (.oth .any) (.oth .any)) (.mk (.oth .any) (.oth .any) (.oth .any) (.oth .any)) (.mk (.oth .any) (.oth .any) (.oth .any) (.oth .any)) (.mk (.oth .any) (.oth .any) (.oth .any) (.oth .any)) (.mk (.oth .any) (.oth .any) (.oth .any) (.oth .any)) (.mk (.oth .any) (.oth .any) (.oth .any) (.oth .any))) AF Em) := by kernel_rfl
end Go.Ev.YtnelgnghdioapaaGreatDoor
