/- For every text and every integer, the program's ZoneEntry and the reference's ZoneEntry give the same entry, which shares no memory. No condition. -/
import Derived.Test.YtnhkdfcggcoemaaPFnExactZoneEntryx2
namespace Go.Proofs.Ytnhkdfcggcoemaa.Pure
open Go.RowKit Go.Proofs.Ytnhkdfcggcoemaa.PFnExactZoneEntry Go.Proofs.YtnhkdfcggcoemaaW.PrintWords Go.Proofs.YtnhkdfcggcoemaaW.PrintLast

theorem FnExactZoneEntry : laws_FnExactZoneEntry.Pure := by
  intro a b _ _
  refine ⟨1, ?_⟩
  unfold laws_FnExactZoneEntry.f
  split
  · rfl
  · simp [spec_ZoneEntry.f, impl_ZoneEntry.f, laws_eqEntry.f, laws_eqStringS.f, laws_eqStringS.l0, laws_markEntry.f, laws_markStringS.f, laws_markStringS.l0, laws_heldEntry.f, laws_heldStringS.f, laws_heldStringS.l0]

end Go.Proofs.Ytnhkdfcggcoemaa.Pure
