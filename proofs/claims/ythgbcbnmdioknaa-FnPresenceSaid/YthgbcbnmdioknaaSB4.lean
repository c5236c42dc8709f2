/- Functions of the program: what each computes, and that it does so.
   Conditions: as each theorem states. -/
import Derived.Test.YthgbcbnmdioknaaSB3
set_option linter.unusedVariables false
set_option linter.unusedSimpArgs false
set_option maxRecDepth 100000
namespace Go.Proofs.Ythgbcbnmdioknaa.Ref
open Go.RowKit Go.Proofs.YthgbcbnmdioknaaW.PrintWords Go.Proofs.YthgbcbnmdioknaaW.PrintLast
abbrev G.spec_CheckAll (root : Int) (l : List TEntry) : Bool := decide (wEs l ≤ 1048576)
abbrev N.spec_CheckAll (root : Int) (l : List TEntry) : Bool := checkAll root l
def spec_CheckAll {ρ : Type} (k : Bool → Option ρ) (a0 : Int) (a1 : (List TEntry)) : Option ρ := (cond (G.spec_AreEntries a1) (cond (N.spec_AreEntries a1) (cond (G.spec_RootOf a1) (k ((N.spec_RootOf a1) == a0)) none) (k false)) none)
theorem spec_CheckAll_ok {ρ : Type} (k : Bool → Option ρ) (a0 : Int) (a1 : (List TEntry)) (l_a1 : lnL (fun y => (True ∧ (True ∧ (True ∧ lnL (fun _ => True) y.2.2.2)))) a1) (g : G.spec_CheckAll a0 a1 = true) : spec_CheckAll k  a0 a1 = k (N.spec_CheckAll a0 a1) := by
  unfold G.spec_CheckAll at g
  simp only [spec_CheckAll, G.spec_AreEntries, N.spec_AreEntries, G.spec_RootOf, N.spec_RootOf, N.spec_CheckAll, g, cond_true, checkAll]
  exact cond_and k _ _
def OP_spec_CheckAll (f0 : (List TEntry) → Bool) (g0 : (List TEntry) → Bool) (f1 : (List TEntry) → Int) (g1 : (List TEntry) → Bool) : Orac := (orcX 18 [.val (.slice 48 TyEntry)] (fun d => g1 d.1) (fun d => [⟨(.int .i64), f1 d.1⟩]) (orcX 24 [.val (.slice 48 TyEntry)] (fun d => g0 d.1) (fun d => [⟨.bool, f0 d.1⟩]) nilO))
def O_spec_CheckAll : Orac := OP_spec_CheckAll N.spec_AreEntries G.spec_AreEntries N.spec_RootOf G.spec_RootOf
def spec_CheckAll_P {ρ : Type} (f0 : (List TEntry) → Bool) (g0 : (List TEntry) → Bool) (f1 : (List TEntry) → Int) (g1 : (List TEntry) → Bool) (k : Bool → Option ρ) (a0 : Int) (a1 : (List TEntry)) : Option ρ := (cond (g0 a1) (cond (f0 a1) (cond (g1 a1) (k ((f1 a1) == a0)) none) (k false)) none)
theorem ok_spec_CheckAll : OracOk Try.prog sigs O_spec_CheckAll := (orcX_ok rfl rfl (fun d g => said_spec_RootOf d.1 g) (orcX_ok rfl rfl (fun d g => said_spec_AreEntries d.1 g) nilO_ok))
def A_spec_CheckAll : Ann := fun b => ⟨[], []⟩
theorem aP_spec_CheckAll (f0 : (List TEntry) → Bool) (g0 : (List TEntry) → Bool) (f1 : (List TEntry) → Int) (g1 : (List TEntry) → Bool) (n : Nat) (a0 : Int) (a1 : (List TEntry)) : absF tab sigs (OP_spec_CheckAll f0 g0 f1 g1) A_spec_CheckAll Try.f34 [(.bool, .no)] n [.val (.int .i64) a0, .val (.slice 48 TyEntry) a1] = spec_CheckAll_P f0 g0 f1 g1 (fun r0 => some [⟨.bool, r0⟩])  a0 a1 := by kernel_rfl
theorem said_spec_CheckAll (a0 : Int) (a1 : (List TEntry)) (g : G.spec_CheckAll a0 a1 = true) : Said Try.prog sigs_34 34 [.val (.int .i64) a0, .val (.slice 48 TyEntry) a1] [⟨.bool, N.spec_CheckAll a0 a1⟩] := said_len (T := tab) (A := A_spec_CheckAll) tabOk ok_spec_CheckAll tabOk.follows Try.func34 (by kernel_rfl) (by kernel_rfl) (fun hl => ⟨0, (aP_spec_CheckAll N.spec_AreEntries G.spec_AreEntries N.spec_RootOf G.spec_RootOf 0 a0 a1).trans (spec_CheckAll_ok (ρ := Ret) (fun r0 => some [⟨.bool, r0⟩]) a0 a1 hl.2.1 g)⟩)
end Go.Proofs.Ythgbcbnmdioknaa.Ref
