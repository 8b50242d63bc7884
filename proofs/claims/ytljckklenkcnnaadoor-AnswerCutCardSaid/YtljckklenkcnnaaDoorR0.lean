/- What is run of AnswerCut, 0. -/
import Derived.Test.YtljckklenkcnnaaDoorR
import Derived.KernelRfl
namespace Go.Ev.YtljckklenkcnnaaDoor
open Go Go.Ev
set_option maxRecDepth 100000
theorem cut100 : cutN 100 76 9 = true := by kernel_rfl
theorem cut109 : cutN 109 76 9 = true := by kernel_rfl
theorem cut118 : cutN 118 76 9 = true := by kernel_rfl
theorem cut127 : cutN 127 76 9 = true := by kernel_rfl
theorem cut136 : cutN 136 76 9 = true := by kernel_rfl
theorem cut145 : cutN 145 76 9 = true := by kernel_rfl
theorem cut154 : cutN 154 76 9 = true := by kernel_rfl
theorem cut163 : cutN 163 76 9 = true := by kernel_rfl
theorem cut172 : cutN 172 76 9 = true := by kernel_rfl
theorem cut181 : cutN 181 76 9 = true := by kernel_rfl
theorem cut190 : cutN 190 76 9 = true := by kernel_rfl
theorem cut199 : cutN 199 99 9 = true := by kernel_rfl
theorem cut208 : cutN 208 76 9 = true := by kernel_rfl
theorem cut217 : cutN 217 76 9 = true := by kernel_rfl
theorem cut226 : cutN 226 76 9 = true := by kernel_rfl
theorem cut235 : cutN 235 76 9 = true := by kernel_rfl
theorem cut244 : cutN 244 76 9 = true := by kernel_rfl
theorem cut253 : cutN 253 76 9 = true := by kernel_rfl
theorem cut262 : cutN 262 76 9 = true := by kernel_rfl
theorem cut271 : cutN 271 76 9 = true := by kernel_rfl
theorem cut280 : cutN 280 76 9 = true := by kernel_rfl
theorem cut289 : cutN 289 76 9 = true := by kernel_rfl
theorem cut298 : cutN 298 87 9 = true := by kernel_rfl
theorem cut307 : cutN 307 76 9 = true := by kernel_rfl
theorem cut316 : cutN 316 76 9 = true := by kernel_rfl
end Go.Ev.YtljckklenkcnnaaDoor
