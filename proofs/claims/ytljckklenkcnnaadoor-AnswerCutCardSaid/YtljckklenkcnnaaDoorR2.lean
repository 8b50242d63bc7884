/- What is run of AnswerCut, 2. -/
import Derived.Test.YtljckklenkcnnaaDoorR
import Derived.KernelRfl
namespace Go.Ev.YtljckklenkcnnaaDoor
open Go Go.Ev
set_option maxRecDepth 100000
theorem cut550 : cutN 550 76 9 = true := by kernel_rfl
theorem cut559 : cutN 559 76 9 = true := by kernel_rfl
theorem cut568 : cutN 568 76 9 = true := by kernel_rfl
theorem cut577 : cutN 577 76 9 = true := by kernel_rfl
theorem cut586 : cutN 586 76 9 = true := by kernel_rfl
theorem cut595 : cutN 595 76 9 = true := by kernel_rfl
theorem cut604 : cutN 604 76 9 = true := by kernel_rfl
theorem cut613 : cutN 613 76 9 = true := by kernel_rfl
theorem cut622 : cutN 622 76 9 = true := by kernel_rfl
theorem cut631 : cutN 631 76 9 = true := by kernel_rfl
theorem cut640 : cutN 640 76 9 = true := by kernel_rfl
theorem cut649 : cutN 649 76 9 = true := by kernel_rfl
theorem cut658 : cutN 658 76 9 = true := by kernel_rfl
theorem cut667 : cutN 667 76 9 = true := by kernel_rfl
theorem cut676 : cutN 676 76 9 = true := by kernel_rfl
theorem cut685 : cutN 685 76 9 = true := by kernel_rfl
theorem cut694 : cutN 694 76 9 = true := by kernel_rfl
theorem cut703 : cutN 703 76 9 = true := by kernel_rfl
theorem cut712 : cutN 712 76 9 = true := by kernel_rfl
theorem cut721 : cutN 721 76 9 = true := by kernel_rfl
theorem cut730 : cutN 730 76 9 = true := by kernel_rfl
theorem cut739 : cutN 739 76 9 = true := by kernel_rfl
theorem cut748 : cutN 748 76 9 = true := by kernel_rfl
theorem cut757 : cutN 757 76 9 = true := by kernel_rfl
theorem cut766 : cutN 766 76 9 = true := by kernel_rfl
end Go.Ev.YtljckklenkcnnaaDoor
