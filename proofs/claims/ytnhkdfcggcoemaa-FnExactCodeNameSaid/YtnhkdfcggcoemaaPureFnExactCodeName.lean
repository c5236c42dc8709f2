/- For every integer, the program's CodeName and the reference's CodeName give the same text. No condition. -/
import Derived.Test.YtnhkdfcggcoemaaPFnExactCodeNamex1
namespace Go.Proofs.Ytnhkdfcggcoemaa.Pure
open Go.RowKit Go.Proofs.Ytnhkdfcggcoemaa.PFnExactCodeName Go.Proofs.YtnhkdfcggcoemaaW.PrintWords Go.Proofs.YtnhkdfcggcoemaaW.PrintLast

theorem FnExactCodeName : laws_FnExactCodeName.Pure := by
  intro a h
  unfold laws_FnExactCodeName.f spec_CodeName.f impl_CodeName.f spec_l1In.f impl_nameOf.f impl_InRange.f
  by_cases h1 : 1 ≤ a ∧ a ≤ 7
  · have h2 : a = 1 ∨ a = 2 ∨ a = 3 ∨ a = 4 ∨ a = 5 ∨ a = 6 ∨ a = 7 := by omega
    rcases h2 with rfl | rfl | rfl | rfl | rfl | rfl | rfl <;> decide +kernel
  · by_cases h3 : 1 ≤ a
    · have h4 : ¬ a ≤ 7 := by omega
      simp [h3, h4]
    · simp [h3]

end Go.Proofs.Ytnhkdfcggcoemaa.Pure
