/- For every text and every integer, the program's ValueEntry and the reference's ValueEntry give the same entry, which shares no memory. No condition. -/
import Derived.Test.YtnhkdfcggcoemaaPFnExactValueEntryx2
namespace Go.Proofs.Ytnhkdfcggcoemaa.Pure
open Go.RowKit Go.Proofs.Ytnhkdfcggcoemaa.PFnExactValueEntry Go.Proofs.YtnhkdfcggcoemaaW.PrintWords Go.Proofs.YtnhkdfcggcoemaaW.PrintLast

theorem FnExactValueEntry : laws_FnExactValueEntry.Pure := by
  intro a b _ _
  refine ⟨1, ?_⟩
  unfold laws_FnExactValueEntry.f
  split
  · rfl
  · simp [spec_ValueEntry.f, impl_ValueEntry.f, laws_eqEntry.f, laws_eqStringS.f, laws_eqStringS.l0, laws_markEntry.f, laws_markStringS.f, laws_markStringS.l0, laws_heldEntry.f, laws_heldStringS.f, laws_heldStringS.l0]

end Go.Proofs.Ytnhkdfcggcoemaa.Pure
