/- A status' words, as the program and the document tell them, walked. -/
import Derived.Test.YthjkpfnkahfdgaaDoorHf
namespace Go.Proofs.YthjkpfnkahfdgaaDoor.answerRead
set_option linter.unusedVariables false
set_option linter.unusedSimpArgs false
open Go.ChangeShapes Go.WideShapes Go.ChangeAt Go.RowKit Go.Hl Go.Hg Go.An
theorem reason_none {n : Nat} (h200 : n ≠ 200) (h203 : n ≠ 203) (h204 : n ≠ 204) (h300 : n ≠ 300) (h301 : n ≠ 301) (h400 : n ≠ 400) (h404 : n ≠ 404) (h405 : n ≠ 405) (h407 : n ≠ 407) (h410 : n ≠ 410) (h413 : n ≠ 413) (h414 : n ≠ 414) (h501 : n ≠ 501) (h502 : n ≠ 502) (h503 : n ≠ 503) : reasonL n = [83, 116, 97, 116, 117, 115] := by
  have h : (reasons.find? fun p => p.1 == n) = none := by
    rw [List.find?_eq_none]
    intro p hp
    simp only [reasons, List.mem_cons, List.not_mem_nil, or_false] at hp
    rcases hp with rfl | rfl | rfl | rfl | rfl | rfl | rfl | rfl | rfl | rfl | rfl | rfl | rfl | rfl | rfl <;> (simp; omega)
  unfold reasonL
  rw [h]; rfl
set_option maxRecDepth 8000 in
set_option maxHeartbeats 1600000 in
theorem rreason (n : Nat) (w : World) : Calls Tryd.prog 26 #[.int .i64 (n : Int)] w fun e w' => e = .returned (.string ⟨(reasonL n).toArray⟩) ∧ w = w' := by
  by_cases h200 : n = 200
  · subst h200
    go_enter Tryd.func26, Tryd.ntmps26
    go_wp2_with fail
    go_ret
    exact ⟨rfl, rfl⟩
  by_cases h203 : n = 203
  · subst h203
    go_enter Tryd.func26, Tryd.ntmps26
    go_wp2_with fail
    go_ret
    exact ⟨rfl, rfl⟩
  by_cases h204 : n = 204
  · subst h204
    go_enter Tryd.func26, Tryd.ntmps26
    go_wp2_with fail
    go_ret
    exact ⟨rfl, rfl⟩
  by_cases h300 : n = 300
  · subst h300
    go_enter Tryd.func26, Tryd.ntmps26
    go_wp2_with fail
    go_ret
    exact ⟨rfl, rfl⟩
  by_cases h301 : n = 301
  · subst h301
    go_enter Tryd.func26, Tryd.ntmps26
    go_wp2_with fail
    go_ret
    exact ⟨rfl, rfl⟩
  by_cases h400 : n = 400
  · subst h400
    go_enter Tryd.func26, Tryd.ntmps26
    go_wp2_with fail
    go_ret
    exact ⟨rfl, rfl⟩
  by_cases h404 : n = 404
  · subst h404
    go_enter Tryd.func26, Tryd.ntmps26
    go_wp2_with fail
    go_ret
    exact ⟨rfl, rfl⟩
  by_cases h405 : n = 405
  · subst h405
    go_enter Tryd.func26, Tryd.ntmps26
    go_wp2_with fail
    go_ret
    exact ⟨rfl, rfl⟩
  by_cases h407 : n = 407
  · subst h407
    go_enter Tryd.func26, Tryd.ntmps26
    go_wp2_with fail
    go_ret
    exact ⟨rfl, rfl⟩
  by_cases h410 : n = 410
  · subst h410
    go_enter Tryd.func26, Tryd.ntmps26
    go_wp2_with fail
    go_ret
    exact ⟨rfl, rfl⟩
  by_cases h413 : n = 413
  · subst h413
    go_enter Tryd.func26, Tryd.ntmps26
    go_wp2_with fail
    go_ret
    exact ⟨rfl, rfl⟩
  by_cases h414 : n = 414
  · subst h414
    go_enter Tryd.func26, Tryd.ntmps26
    go_wp2_with fail
    go_ret
    exact ⟨rfl, rfl⟩
  by_cases h501 : n = 501
  · subst h501
    go_enter Tryd.func26, Tryd.ntmps26
    go_wp2_with fail
    go_ret
    exact ⟨rfl, rfl⟩
  by_cases h502 : n = 502
  · subst h502
    go_enter Tryd.func26, Tryd.ntmps26
    go_wp2_with fail
    go_ret
    exact ⟨rfl, rfl⟩
  by_cases h503 : n = 503
  · subst h503
    go_enter Tryd.func26, Tryd.ntmps26
    go_wp2_with fail
    go_ret
    exact ⟨rfl, rfl⟩
  have d200 : ((n : Int) == 200) = false := by rw [beq_eq_false_iff_ne]; omega
  have d203 : ((n : Int) == 203) = false := by rw [beq_eq_false_iff_ne]; omega
  have d204 : ((n : Int) == 204) = false := by rw [beq_eq_false_iff_ne]; omega
  have d300 : ((n : Int) == 300) = false := by rw [beq_eq_false_iff_ne]; omega
  have d301 : ((n : Int) == 301) = false := by rw [beq_eq_false_iff_ne]; omega
  have d400 : ((n : Int) == 400) = false := by rw [beq_eq_false_iff_ne]; omega
  have d404 : ((n : Int) == 404) = false := by rw [beq_eq_false_iff_ne]; omega
  have d405 : ((n : Int) == 405) = false := by rw [beq_eq_false_iff_ne]; omega
  have d407 : ((n : Int) == 407) = false := by rw [beq_eq_false_iff_ne]; omega
  have d410 : ((n : Int) == 410) = false := by rw [beq_eq_false_iff_ne]; omega
  have d413 : ((n : Int) == 413) = false := by rw [beq_eq_false_iff_ne]; omega
  have d414 : ((n : Int) == 414) = false := by rw [beq_eq_false_iff_ne]; omega
  have d501 : ((n : Int) == 501) = false := by rw [beq_eq_false_iff_ne]; omega
  have d502 : ((n : Int) == 502) = false := by rw [beq_eq_false_iff_ne]; omega
  have d503 : ((n : Int) == 503) = false := by rw [beq_eq_false_iff_ne]; omega
  go_enter Tryd.func26, Tryd.ntmps26
  go_wp2_with fail
  go_ret
  rw [reason_none h200 h203 h204 h300 h301 h400 h404 h405 h407 h410 h413 h414 h501 h502 h503]
  exact ⟨rfl, rfl⟩
set_option maxRecDepth 8000 in
set_option maxHeartbeats 1600000 in
theorem fewer (n : Nat) (w : World) (h200 : n ≠ 200) (h203 : n ≠ 203) (h204 : n ≠ 204) (h300 : n ≠ 300) (h301 : n ≠ 301) (h400 : n ≠ 400) (h404 : n ≠ 404) (h405 : n ≠ 405) (h407 : n ≠ 407) (h410 : n ≠ 410) : Calls Tryd.prog 25 #[.int .i64 (n : Int)] w fun e w' => e = .returned (.string ⟨(reasonL n).toArray⟩) ∧ w = w' := by
  by_cases h413 : n = 413
  · subst h413
    go_enter Tryd.func25, Tryd.ntmps25
    go_wp2_with fail
    go_ret
    exact ⟨rfl, rfl⟩
  by_cases h414 : n = 414
  · subst h414
    go_enter Tryd.func25, Tryd.ntmps25
    go_wp2_with fail
    go_ret
    exact ⟨rfl, rfl⟩
  by_cases h501 : n = 501
  · subst h501
    go_enter Tryd.func25, Tryd.ntmps25
    go_wp2_with fail
    go_ret
    exact ⟨rfl, rfl⟩
  by_cases h502 : n = 502
  · subst h502
    go_enter Tryd.func25, Tryd.ntmps25
    go_wp2_with fail
    go_ret
    exact ⟨rfl, rfl⟩
  by_cases h503 : n = 503
  · subst h503
    go_enter Tryd.func25, Tryd.ntmps25
    go_wp2_with fail
    go_ret
    exact ⟨rfl, rfl⟩
  have d413 : ((n : Int) == 413) = false := by rw [beq_eq_false_iff_ne]; omega
  have d414 : ((n : Int) == 414) = false := by rw [beq_eq_false_iff_ne]; omega
  have d501 : ((n : Int) == 501) = false := by rw [beq_eq_false_iff_ne]; omega
  have d502 : ((n : Int) == 502) = false := by rw [beq_eq_false_iff_ne]; omega
  have d503 : ((n : Int) == 503) = false := by rw [beq_eq_false_iff_ne]; omega
  go_enter Tryd.func25, Tryd.ntmps25
  go_wp2_with fail
  go_ret
  rw [reason_none h200 h203 h204 h300 h301 h400 h404 h405 h407 h410 h413 h414 h501 h502 h503]
  exact ⟨rfl, rfl⟩
set_option maxRecDepth 8000 in
set_option maxHeartbeats 1600000 in
theorem reason (n : Nat) (w : World) : Calls Tryd.prog 14 #[.int .i64 (n : Int)] w fun e w' => e = .returned (.string ⟨(reasonL n).toArray⟩) ∧ w = w' := by
  by_cases h200 : n = 200
  · subst h200
    go_enter Tryd.func14, Tryd.ntmps14
    go_wp2_with fail
    go_ret
    exact ⟨rfl, rfl⟩
  by_cases h203 : n = 203
  · subst h203
    go_enter Tryd.func14, Tryd.ntmps14
    go_wp2_with fail
    go_ret
    exact ⟨rfl, rfl⟩
  by_cases h204 : n = 204
  · subst h204
    go_enter Tryd.func14, Tryd.ntmps14
    go_wp2_with fail
    go_ret
    exact ⟨rfl, rfl⟩
  by_cases h300 : n = 300
  · subst h300
    go_enter Tryd.func14, Tryd.ntmps14
    go_wp2_with fail
    go_ret
    exact ⟨rfl, rfl⟩
  by_cases h301 : n = 301
  · subst h301
    go_enter Tryd.func14, Tryd.ntmps14
    go_wp2_with fail
    go_ret
    exact ⟨rfl, rfl⟩
  by_cases h400 : n = 400
  · subst h400
    go_enter Tryd.func14, Tryd.ntmps14
    go_wp2_with fail
    go_ret
    exact ⟨rfl, rfl⟩
  by_cases h404 : n = 404
  · subst h404
    go_enter Tryd.func14, Tryd.ntmps14
    go_wp2_with fail
    go_ret
    exact ⟨rfl, rfl⟩
  by_cases h405 : n = 405
  · subst h405
    go_enter Tryd.func14, Tryd.ntmps14
    go_wp2_with fail
    go_ret
    exact ⟨rfl, rfl⟩
  by_cases h407 : n = 407
  · subst h407
    go_enter Tryd.func14, Tryd.ntmps14
    go_wp2_with fail
    go_ret
    exact ⟨rfl, rfl⟩
  by_cases h410 : n = 410
  · subst h410
    go_enter Tryd.func14, Tryd.ntmps14
    go_wp2_with fail
    go_ret
    exact ⟨rfl, rfl⟩
  have d200 : ((n : Int) == 200) = false := by rw [beq_eq_false_iff_ne]; omega
  have d203 : ((n : Int) == 203) = false := by rw [beq_eq_false_iff_ne]; omega
  have d204 : ((n : Int) == 204) = false := by rw [beq_eq_false_iff_ne]; omega
  have d300 : ((n : Int) == 300) = false := by rw [beq_eq_false_iff_ne]; omega
  have d301 : ((n : Int) == 301) = false := by rw [beq_eq_false_iff_ne]; omega
  have d400 : ((n : Int) == 400) = false := by rw [beq_eq_false_iff_ne]; omega
  have d404 : ((n : Int) == 404) = false := by rw [beq_eq_false_iff_ne]; omega
  have d405 : ((n : Int) == 405) = false := by rw [beq_eq_false_iff_ne]; omega
  have d407 : ((n : Int) == 407) = false := by rw [beq_eq_false_iff_ne]; omega
  have d410 : ((n : Int) == 410) = false := by rw [beq_eq_false_iff_ne]; omega
  go_enter Tryd.func14, Tryd.ntmps14
  go_wp2_with (first | (go_at_call 25; refine (fewer n _ h200 h203 h204 h300 h301 h400 h404 h405 h407 h410).mono ?_; rintro e w2 ⟨rfl, rfl⟩) | fail)
  go_ret
  exact ⟨rfl, rfl⟩
end Go.Proofs.YthjkpfnkahfdgaaDoor.answerRead
