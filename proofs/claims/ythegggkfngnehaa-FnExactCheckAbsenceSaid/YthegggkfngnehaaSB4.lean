/- Functions of the program: what each computes, and that it does so.
   Conditions: as each theorem states. -/
import Derived.Test.YthegggkfngnehaaSB3
set_option linter.unusedVariables false
set_option linter.unusedSimpArgs false
set_option maxRecDepth 100000
namespace Go.Proofs.Ythegggkfngnehaa.Ref
open Go.RowKit Go.Proofs.YthegggkfngnehaaW.PrintWords Go.Proofs.YthegggkfngnehaaW.PrintLast
/-! laws.eqGap -/
abbrev N.laws_eqGap (a b : TGap) : Bool := eqGap a b
def laws_eqGap {ρ : Type} (k : Bool → Option ρ) (a0 : TGap) (a1 : TGap) : Option ρ := (cond (a0.1 != a1.1) (k false) (cond (!(N.laws_eqEntry a0.2.1 a1.2.1)) (k false) (cond (!(N.laws_eqEntry a0.2.2.1 a1.2.2.1)) (k false) (cond (!(N.laws_eqProof a0.2.2.2.1 a1.2.2.2.1)) (k false) (cond (!(N.laws_eqProof a0.2.2.2.2 a1.2.2.2.2)) (k false) (k true))))))
theorem laws_eqGap_ok {ρ : Type} (k : Bool → Option ρ) (a0 : TGap) (a1 : TGap) (l_a0 : (True ∧ ((True ∧ (True ∧ (True ∧ lnL (fun _ => True) a0.2.1.2.2.2))) ∧ ((True ∧ (True ∧ (True ∧ lnL (fun _ => True) a0.2.2.1.2.2.2))) ∧ ((True ∧ lnL (fun _ => True) a0.2.2.2.1.2) ∧ (True ∧ lnL (fun _ => True) a0.2.2.2.2.2)))))) (l_a1 : (True ∧ ((True ∧ (True ∧ (True ∧ lnL (fun _ => True) a1.2.1.2.2.2))) ∧ ((True ∧ (True ∧ (True ∧ lnL (fun _ => True) a1.2.2.1.2.2.2))) ∧ ((True ∧ lnL (fun _ => True) a1.2.2.2.1.2) ∧ (True ∧ lnL (fun _ => True) a1.2.2.2.2.2)))))) : laws_eqGap k  a0 a1 = k (N.laws_eqGap a0 a1) := by
  simp only [laws_eqGap, N.laws_eqGap, N.laws_eqEntry, N.laws_eqProof, eqGap, bne]
  cases a0.1 == a1.1
  · rfl
  cases eqEntry a0.2.1 a1.2.1
  · rfl
  cases eqEntry a0.2.2.1 a1.2.2.1
  · rfl
  cases eqProof a0.2.2.2.1 a1.2.2.2.1
  · rfl
  cases eqProof a0.2.2.2.2 a1.2.2.2.2 <;> rfl
def OP_laws_eqGap (f_laws_eqEntry : TEntry → TEntry → Bool) (f_laws_eqProof : TProof → TProof → Bool) : Orac := (orcX 16 [.val (.pair (.int .i64) (.slice 3 (.int .i64))), .val (.pair (.int .i64) (.slice 3 (.int .i64)))] (fun d => true) (fun d => [⟨.bool, f_laws_eqProof d.1 d.2.1⟩]) (orcX 15 [.val (.pair .str (.pair (.int .i64) (.pair (.int .i64) (.slice 9 .str)))), .val (.pair .str (.pair (.int .i64) (.pair (.int .i64) (.slice 9 .str))))] (fun d => true) (fun d => [⟨.bool, f_laws_eqEntry d.1 d.2.1⟩]) nilO))
def O_laws_eqGap : Orac := OP_laws_eqGap N.laws_eqEntry N.laws_eqProof
def laws_eqGap_P {ρ : Type} (f_laws_eqEntry : TEntry → TEntry → Bool) (f_laws_eqProof : TProof → TProof → Bool) (k : Bool → Option ρ) (a0 : TGap) (a1 : TGap) : Option ρ := (cond (a0.1 != a1.1) (k false) (cond (!(f_laws_eqEntry a0.2.1 a1.2.1)) (k false) (cond (!(f_laws_eqEntry a0.2.2.1 a1.2.2.1)) (k false) (cond (!(f_laws_eqProof a0.2.2.2.1 a1.2.2.2.1)) (k false) (cond (!(f_laws_eqProof a0.2.2.2.2 a1.2.2.2.2)) (k false) (k true))))))
theorem ok_laws_eqGap : OracOk Try.prog sigs O_laws_eqGap := (orcX_ok rfl (fun d g => said_laws_eqProof d.1 d.2.1) (orcX_ok rfl (fun d g => said_laws_eqEntry d.1 d.2.1) nilO_ok))
def A_laws_eqGap : Ann := fun b => ⟨[], []⟩
theorem aP_laws_eqGap (f_laws_eqEntry : TEntry → TEntry → Bool) (f_laws_eqProof : TProof → TProof → Bool) (n : Nat) (a0 : TGap) (a1 : TGap) : absF tab sigs (OP_laws_eqGap f_laws_eqEntry f_laws_eqProof) A_laws_eqGap Try.f31 [(.bool, .no)] n [.val (.pair (.int .i64) (.pair (.pair .str (.pair (.int .i64) (.pair (.int .i64) (.slice 9 .str)))) (.pair (.pair .str (.pair (.int .i64) (.pair (.int .i64) (.slice 9 .str)))) (.pair (.pair (.int .i64) (.slice 3 (.int .i64))) (.pair (.int .i64) (.slice 3 (.int .i64))))))) a0, .val (.pair (.int .i64) (.pair (.pair .str (.pair (.int .i64) (.pair (.int .i64) (.slice 9 .str)))) (.pair (.pair .str (.pair (.int .i64) (.pair (.int .i64) (.slice 9 .str)))) (.pair (.pair (.int .i64) (.slice 3 (.int .i64))) (.pair (.int .i64) (.slice 3 (.int .i64))))))) a1] = laws_eqGap_P f_laws_eqEntry f_laws_eqProof (fun r0 => some [⟨.bool, r0⟩])  a0 a1 := by kernel_rfl
theorem a_laws_eqGap (n : Nat) (a0 : TGap) (a1 : TGap) : absF tab sigs O_laws_eqGap A_laws_eqGap Try.f31 [(.bool, .no)] n [.val (.pair (.int .i64) (.pair (.pair .str (.pair (.int .i64) (.pair (.int .i64) (.slice 9 .str)))) (.pair (.pair .str (.pair (.int .i64) (.pair (.int .i64) (.slice 9 .str)))) (.pair (.pair (.int .i64) (.slice 3 (.int .i64))) (.pair (.int .i64) (.slice 3 (.int .i64))))))) a0, .val (.pair (.int .i64) (.pair (.pair .str (.pair (.int .i64) (.pair (.int .i64) (.slice 9 .str)))) (.pair (.pair .str (.pair (.int .i64) (.pair (.int .i64) (.slice 9 .str)))) (.pair (.pair (.int .i64) (.slice 3 (.int .i64))) (.pair (.int .i64) (.slice 3 (.int .i64))))))) a1] = laws_eqGap (fun r0 => some [⟨.bool, r0⟩])  a0 a1 := aP_laws_eqGap N.laws_eqEntry N.laws_eqProof n a0 a1
theorem said_laws_eqGap (a0 : TGap) (a1 : TGap) : Said Try.prog sigs_31 31 [.val (.pair (.int .i64) (.pair (.pair .str (.pair (.int .i64) (.pair (.int .i64) (.slice 9 .str)))) (.pair (.pair .str (.pair (.int .i64) (.pair (.int .i64) (.slice 9 .str)))) (.pair (.pair (.int .i64) (.slice 3 (.int .i64))) (.pair (.int .i64) (.slice 3 (.int .i64))))))) a0, .val (.pair (.int .i64) (.pair (.pair .str (.pair (.int .i64) (.pair (.int .i64) (.slice 9 .str)))) (.pair (.pair .str (.pair (.int .i64) (.pair (.int .i64) (.slice 9 .str)))) (.pair (.pair (.int .i64) (.slice 3 (.int .i64))) (.pair (.int .i64) (.slice 3 (.int .i64))))))) a1] [⟨.bool, N.laws_eqGap a0 a1⟩] := said_len (T := tab) (A := A_laws_eqGap) tabOk ok_laws_eqGap tabOk.follows Try.func31 (by kernel_rfl) (by kernel_rfl) (fun hl => ⟨0, (a_laws_eqGap 0 a0 a1).trans (laws_eqGap_ok (ρ := Ret) (fun r0 => some [⟨.bool, r0⟩]) a0 a1 hl.1 hl.2.1)⟩)
end Go.Proofs.Ythegggkfngnehaa.Ref
