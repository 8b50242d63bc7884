/- What is run of TopEveryCrash, 0 9. -/
import Derived.Test.YtnelgnghdioapaaGreatDoorCY
import Derived.KernelRfl
namespace Go.Ev.YtnelgnghdioapaaGreatDoor
open Go Go.Ev
set_option maxRecDepth 100000
theorem en_few:(fun K => KM (goB (At (bd4 cfR (.mk (.mk (.oth (.iv .i64 0 18446744073709551615)) (.oth (.os 0 200)) (.oth (.iv .i64 0 18446744073709551615)) (.oth .any)) (.mk (.int .i64 8) (.oth .any) (.oth .any) (.oth .any)) (.mk (.oth .any) (.oth .any) (.oth .any) (.oth .any)) (.mk (.oth .any) (.oth .any) (.oth .any) (.oth .any)) (.mk (.oth .any) (.oth .any) (.oth .any) (.oth .any)) (.mk (.oth .any) (.oth .any) (.oth .any) (.oth .any)) (.mk (.oth .any) (.oth .any) (.oth .any) (.oth .any)) (.mk (.oth .any) (.oth .any) (.oth .any) (.oth .any))) AF Em) K)))=fun _ => true := by kernel_rfl
end Go.Ev.YtnelgnghdioapaaGreatDoor
