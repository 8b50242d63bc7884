/- What is run of AnswerCut, 1. -/
import Derived.Test.YtljckklenkcnnaaDoorR
import Derived.KernelRfl
namespace Go.Ev.YtljckklenkcnnaaDoor
open Go Go.Ev
set_option maxRecDepth 100000
theorem cut325 : cutN 325 76 9 = true := by kernel_rfl
theorem cut334 : cutN 334 76 9 = true := by kernel_rfl
theorem cut343 : cutN 343 76 9 = true := by kernel_rfl
theorem cut352 : cutN 352 76 9 = true := by kernel_rfl
theorem cut361 : cutN 361 76 9 = true := by kernel_rfl
theorem cut370 : cutN 370 76 9 = true := by kernel_rfl
theorem cut379 : cutN 379 76 9 = true := by kernel_rfl
theorem cut388 : cutN 388 76 9 = true := by kernel_rfl
theorem cut397 : cutN 397 88 9 = true := by kernel_rfl
theorem cut406 : cutN 406 99 9 = true := by kernel_rfl
theorem cut415 : cutN 415 76 9 = true := by kernel_rfl
theorem cut424 : cutN 424 76 9 = true := by kernel_rfl
theorem cut433 : cutN 433 76 9 = true := by kernel_rfl
theorem cut442 : cutN 442 76 9 = true := by kernel_rfl
theorem cut451 : cutN 451 76 9 = true := by kernel_rfl
theorem cut460 : cutN 460 76 9 = true := by kernel_rfl
theorem cut469 : cutN 469 76 9 = true := by kernel_rfl
theorem cut478 : cutN 478 76 9 = true := by kernel_rfl
theorem cut487 : cutN 487 76 9 = true := by kernel_rfl
theorem cut496 : cutN 496 89 9 = true := by kernel_rfl
theorem cut505 : cutN 505 76 9 = true := by kernel_rfl
theorem cut514 : cutN 514 76 9 = true := by kernel_rfl
theorem cut523 : cutN 523 76 9 = true := by kernel_rfl
theorem cut532 : cutN 532 76 9 = true := by kernel_rfl
theorem cut541 : cutN 541 76 9 = true := by kernel_rfl
end Go.Ev.YtljckklenkcnnaaDoor
