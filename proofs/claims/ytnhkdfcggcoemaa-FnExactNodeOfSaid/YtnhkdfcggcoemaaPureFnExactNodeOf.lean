/- For every two integers, the program's NodeOf and the reference's NodeOf give the same number. No condition. -/
import Derived.Test.YtnhkdfcggcoemaaPFnExactNodeOfx1
namespace Go.Proofs.Ytnhkdfcggcoemaa.Pure
open Go.RowKit Go.Proofs.Ytnhkdfcggcoemaa.PFnExactNodeOf Go.Proofs.YtnhkdfcggcoemaaW.PrintWords Go.Proofs.YtnhkdfcggcoemaaW.PrintLast

theorem tmod_lit (v : Int) : Int.tmod (wrap64 ((Int.tmod v 2147483647) + 2147483647)) 2147483647 = v % 2147483647 := by
  have h : ∃ r, Int.tmod v 2147483647 = r ∧ -2147483647 < r ∧ r < 2147483647 ∧ (r + 2147483647) % 2147483647 = v % 2147483647 := by
    rcases Int.le_total 0 v with h | h
    · exact ⟨v % 2147483647, Int.tmod_eq_emod_of_nonneg h, by omega, by omega, by omega⟩
    · obtain ⟨n, rfl⟩ : ∃ n, v = -n := ⟨-v, by omega⟩
      refine ⟨-(n % 2147483647), ?_, by omega, by omega, by omega⟩
      rw [Int.neg_tmod, Int.tmod_eq_emod_of_nonneg (by omega)]
  obtain ⟨r, hr, h1, h2, h3⟩ := h
  rw [hr, show wrap64 (r + 2147483647) = r + 2147483647 from by unfold wrap64; omega, Int.tmod_eq_emod_of_nonneg (by omega), h3]
theorem hash_step_eq {d m : Int} (h0 : 0 ≤ d) (h1 : d < 2147483647) (h2 : 0 ≤ m) (h3 : m < 2147483647) :
    Int.tmod (wrap64 ((wrap64 ((wrap64 (d * 1000003)) + m)) + 13)) 2147483647 = (d * 1000003 + m + 13) % 2147483647 := by
  rw [show wrap64 (d * 1000003) = d * 1000003 from by unfold wrap64; omega, show wrap64 (d * 1000003 + m) = d * 1000003 + m from by unfold wrap64; omega,
    show wrap64 (d * 1000003 + m + 13) = d * 1000003 + m + 13 from by unfold wrap64; omega, Int.tmod_eq_emod_of_nonneg (by omega)]
def hstep (d v : Int) : Int := (d * 1000003 + v % 2147483647 + 13) % 2147483647
theorem hstep_bd (d v : Int) : 0 ≤ hstep d v ∧ hstep d v < 2147483647 := by unfold hstep; omega
theorem spec_mod (v : Int) : spec_Mod.f v 2147483647 = some (v % 2147483647) := by
  unfold spec_Mod.f spec_l1In.f
  rw [if_pos (by decide)]
  simp only [Option.bind_some]
  rw [if_pos (by decide), if_neg (by decide), tmod_lit]
theorem impl_mod (v : Int) : impl_Mod.f v 2147483647 = some (v % 2147483647) := by
  unfold impl_Mod.f impl_InRange.f
  rw [if_pos (by decide)]
  simp only [Option.bind_some]
  rw [if_pos (by decide), if_neg (by decide), tmod_lit]
theorem spec_hash (l : List Int) (hl : l.length < 9223372036854775807) (n : Nat) : ∀ (k i : Nat) (d : Int), i + n = l.length → n < k → 0 ≤ d → d < 2147483647 →
    spec_Hash.l0 k l d i = some ((l.drop i).foldl hstep d) := by
  induction n with
  | zero =>
    intro k i d hi hk h0 h1
    obtain ⟨k, rfl⟩ : ∃ m, k = m + 1 := ⟨k - 1, by omega⟩
    simp only [spec_Hash.l0]
    rw [if_neg (by omega), List.drop_eq_nil_of_le (by omega)]; rfl
  | succ n ih =>
    intro k i d hi hk h0 h1
    obtain ⟨k, rfl⟩ : ∃ m, k = m + 1 := ⟨k - 1, by omega⟩
    simp only [spec_Hash.l0]
    rw [if_pos (by omega), if_pos (by omega), spec_mod]
    simp only [Option.bind_some]
    have hr : rd l (i : Int) = l[i]'(by omega) := by simp [rd, List.getElem?_eq_getElem (show i < l.length by omega)]
    rw [hash_step_eq h0 h1 (by omega) (by omega), show wrap64 ((i : Int) + 1) = ((i + 1 : Nat) : Int) from by unfold wrap64; omega,
      ih k (i + 1) _ (by omega) (by omega) (by omega) (by omega), List.drop_eq_getElem_cons (show i < l.length by omega), hr]
    rfl
theorem impl_hash_l (l : List Int) (hl : l.length < 9223372036854775807) (n : Nat) : ∀ (k i : Nat) (d : Int), i + n = l.length → n < k → 0 ≤ d → d < 2147483647 →
    impl_Hash.l0 k d l l.length i = some ((l.drop i).foldl hstep d) := by
  induction n with
  | zero =>
    intro k i d hi hk h0 h1
    obtain ⟨k, rfl⟩ : ∃ m, k = m + 1 := ⟨k - 1, by omega⟩
    simp only [impl_Hash.l0]
    rw [if_neg (by omega), List.drop_eq_nil_of_le (by omega)]; rfl
  | succ n ih =>
    intro k i d hi hk h0 h1
    obtain ⟨k, rfl⟩ : ∃ m, k = m + 1 := ⟨k - 1, by omega⟩
    simp only [impl_Hash.l0]
    rw [if_pos (by omega), if_pos (by omega), if_pos (by omega), impl_mod]
    simp only [Option.bind_some]
    have hr : rd l (i : Int) = l[i]'(by omega) := by simp [rd, List.getElem?_eq_getElem (show i < l.length by omega)]
    rw [hash_step_eq h0 h1 (by omega) (by omega), show wrap64 ((i : Int) + 1) = ((i + 1 : Nat) : Int) from by unfold wrap64; omega,
      ih k (i + 1) _ (by omega) (by omega) (by omega) (by omega), List.drop_eq_getElem_cons (show i < l.length by omega), hr]
    rfl

theorem FnExactNodeOf : laws_FnExactNodeOf.Pure := by
  intro a b _ _
  refine ⟨4, ?_⟩
  unfold laws_FnExactNodeOf.f spec_NodeOf.f impl_NodeOf.f impl_hash.f spec_Hash.f impl_Hash.f
  have h1 := spec_hash [229, a, b] (by simp) 3 4 0 11 (by rfl) (by decide) (by decide) (by decide)
  have h2 := impl_hash_l [229, a, b] (by simp) 3 4 0 11 (by rfl) (by decide) (by decide) (by decide)
  simp only [Int.natCast_zero] at h1 h2
  rw [h1, h2]
  simp

end Go.Proofs.Ytnhkdfcggcoemaa.Pure
