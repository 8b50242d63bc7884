/- What is run of AnswerCut, 3. -/
import Derived.Test.YtljckklenkcnnaaDoorR
import Derived.KernelRfl
namespace Go.Ev.YtljckklenkcnnaaDoor
open Go Go.Ev
set_option maxRecDepth 100000
theorem cut775 : cutN 775 76 9 = true := by kernel_rfl
theorem cut784 : cutN 784 76 9 = true := by kernel_rfl
theorem cut793 : cutN 793 76 9 = true := by kernel_rfl
theorem cut802 : cutN 802 76 9 = true := by kernel_rfl
theorem cut811 : cutN 811 76 9 = true := by kernel_rfl
theorem cut820 : cutN 820 76 9 = true := by kernel_rfl
theorem cut829 : cutN 829 76 9 = true := by kernel_rfl
theorem cut838 : cutN 838 76 9 = true := by kernel_rfl
theorem cut847 : cutN 847 76 9 = true := by kernel_rfl
theorem cut856 : cutN 856 76 9 = true := by kernel_rfl
theorem cut865 : cutN 865 76 9 = true := by kernel_rfl
theorem cut874 : cutN 874 76 9 = true := by kernel_rfl
theorem cut883 : cutN 883 76 9 = true := by kernel_rfl
theorem cut892 : cutN 892 76 9 = true := by kernel_rfl
theorem cut901 : cutN 901 76 9 = true := by kernel_rfl
theorem cut910 : cutN 910 76 9 = true := by kernel_rfl
theorem cut919 : cutN 919 76 9 = true := by kernel_rfl
theorem cut928 : cutN 928 76 9 = true := by kernel_rfl
theorem cut937 : cutN 937 76 9 = true := by kernel_rfl
theorem cut946 : cutN 946 76 9 = true := by kernel_rfl
theorem cut955 : cutN 955 76 9 = true := by kernel_rfl
theorem cut964 : cutN 964 76 9 = true := by kernel_rfl
theorem cut973 : cutN 973 76 9 = true := by kernel_rfl
theorem cut982 : cutN 982 76 9 = true := by kernel_rfl
theorem cut991 : cutN 991 76 9 = true := by kernel_rfl
end Go.Ev.YtljckklenkcnnaaDoor
