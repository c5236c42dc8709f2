/- Functions of the program: what each computes, and that it does so.
   Conditions: as each theorem states. -/
import Derived.Test.YthcenfbfgjcikaaSB3
set_option linter.unusedVariables false
set_option linter.unusedSimpArgs false
set_option maxRecDepth 100000
namespace Go.Proofs.Ythcenfbfgjcikaa.Ref
open Go.RowKit Go.Proofs.YthcenfbfgjcikaaW.PrintWords Go.Proofs.YthcenfbfgjcikaaW.PrintLast
/-! laws.markHead -/
abbrev N.laws_markHead (a : THead) (k : Int) : Int × THead := (upI (upI (upI k a.2.2.2.2.2.2.2.2.1.1.length) a.2.2.2.2.2.2.2.2.2.1.1.length) a.2.2.2.2.2.2.2.2.2.2.2.1.1.length, (a.1, (a.2.1, (a.2.2.1, (a.2.2.2.1, (a.2.2.2.2.1, (a.2.2.2.2.2.1, (a.2.2.2.2.2.2.1, (a.2.2.2.2.2.2.2.1, ((mkI k a.2.2.2.2.2.2.2.2.1.1.length, a.2.2.2.2.2.2.2.2.1.2), ((mkI (upI k a.2.2.2.2.2.2.2.2.1.1.length) a.2.2.2.2.2.2.2.2.2.1.1.length, a.2.2.2.2.2.2.2.2.2.1.2), (a.2.2.2.2.2.2.2.2.2.2.1, ((mkI (upI (upI k a.2.2.2.2.2.2.2.2.1.1.length) a.2.2.2.2.2.2.2.2.2.1.1.length) a.2.2.2.2.2.2.2.2.2.2.2.1.1.length, a.2.2.2.2.2.2.2.2.2.2.2.1.2), a.2.2.2.2.2.2.2.2.2.2.2.2)))))))))))))
def laws_markHead {ρ : Type} (k : Int → THead → Option ρ) (a0 : THead) (a1 : Int) : Option ρ := (k (N.laws_markKeys a0.2.2.2.2.2.2.2.2.2.2.2.1 (N.laws_markKeys a0.2.2.2.2.2.2.2.2.2.1 (N.laws_markKeys a0.2.2.2.2.2.2.2.2.1 a1).1).1).1 (a0.1, (a0.2.1, (a0.2.2.1, (a0.2.2.2.1, (a0.2.2.2.2.1, (a0.2.2.2.2.2.1, (a0.2.2.2.2.2.2.1, (a0.2.2.2.2.2.2.2.1, (((N.laws_markKeys a0.2.2.2.2.2.2.2.2.1 a1).2.1, a0.2.2.2.2.2.2.2.2.1.2), (((N.laws_markKeys a0.2.2.2.2.2.2.2.2.2.1 (N.laws_markKeys a0.2.2.2.2.2.2.2.2.1 a1).1).2.1, a0.2.2.2.2.2.2.2.2.2.1.2), (a0.2.2.2.2.2.2.2.2.2.2.1, (((N.laws_markKeys a0.2.2.2.2.2.2.2.2.2.2.2.1 (N.laws_markKeys a0.2.2.2.2.2.2.2.2.2.1 (N.laws_markKeys a0.2.2.2.2.2.2.2.2.1 a1).1).1).2.1, a0.2.2.2.2.2.2.2.2.2.2.2.1.2), a0.2.2.2.2.2.2.2.2.2.2.2.2)))))))))))))
theorem laws_markHead_ok {ρ : Type} (k : Int → THead → Option ρ) (a0 : THead) (a1 : Int) (l_a0 : (lenT TyHead a0)) : laws_markHead k  a0 a1 = k (N.laws_markHead a0 a1).1 (N.laws_markHead a0 a1).2 := by
  rfl
def OP_laws_markHead (f_laws_markKeys : TKeys → Int → (Int × TKeys)) : Orac := (orcX 23 [.lend (.pair (.slice 3 (.int .i64)) (.int .i64)) (.pair (.own 0) .no), .val (.int .i64)] (fun d => true) (fun d => [⟨(.int .i64), (f_laws_markKeys d.1 d.2.1).1⟩, ⟨(.pair (.slice 3 (.int .i64)) (.int .i64)), (f_laws_markKeys d.1 d.2.1).2⟩]) nilO)
def O_laws_markHead : Orac := OP_laws_markHead N.laws_markKeys
def laws_markHead_P {ρ : Type} (f_laws_markKeys : TKeys → Int → (Int × TKeys)) (k : Int → THead → Option ρ) (a0 : THead) (a1 : Int) : Option ρ := (k (f_laws_markKeys a0.2.2.2.2.2.2.2.2.2.2.2.1 (f_laws_markKeys a0.2.2.2.2.2.2.2.2.2.1 (f_laws_markKeys a0.2.2.2.2.2.2.2.2.1 a1).1).1).1 (a0.1, (a0.2.1, (a0.2.2.1, (a0.2.2.2.1, (a0.2.2.2.2.1, (a0.2.2.2.2.2.1, (a0.2.2.2.2.2.2.1, (a0.2.2.2.2.2.2.2.1, (((f_laws_markKeys a0.2.2.2.2.2.2.2.2.1 a1).2.1, a0.2.2.2.2.2.2.2.2.1.2), (((f_laws_markKeys a0.2.2.2.2.2.2.2.2.2.1 (f_laws_markKeys a0.2.2.2.2.2.2.2.2.1 a1).1).2.1, a0.2.2.2.2.2.2.2.2.2.1.2), (a0.2.2.2.2.2.2.2.2.2.2.1, (((f_laws_markKeys a0.2.2.2.2.2.2.2.2.2.2.2.1 (f_laws_markKeys a0.2.2.2.2.2.2.2.2.2.1 (f_laws_markKeys a0.2.2.2.2.2.2.2.2.1 a1).1).1).2.1, a0.2.2.2.2.2.2.2.2.2.2.2.1.2), a0.2.2.2.2.2.2.2.2.2.2.2.2)))))))))))))
theorem ok_laws_markHead : OracOk Try.prog sigs O_laws_markHead := (orcM_ok rfl (fun d g => said_laws_markKeys d.1 d.2.1) nilO_ok)
def A_laws_markHead : Ann := fun b => ⟨[], []⟩
theorem aP_laws_markHead (f_laws_markKeys : TKeys → Int → (Int × TKeys)) (n : Nat) (a0 : THead) (a1 : Int) : absFM tab sigs (OP_laws_markHead f_laws_markKeys) A_laws_markHead Try.f21 n TyHead a0 (.pair .no (.pair .no (.pair .no (.pair .no (.pair .no (.pair .no (.pair .no (.pair .no (.pair (.pair (.own 0) .no) (.pair (.pair (.own 1) .no) (.pair .no (.pair (.pair (.own 2) .no) .no)))))))))))) a1 = laws_markHead_P f_laws_markKeys (fun r0 r1 => some [⟨(.int .i64), r0⟩, ⟨TyHead, r1⟩])  a0 a1 := by kernel_rfl
theorem a_laws_markHead (n : Nat) (a0 : THead) (a1 : Int) : absFM tab sigs O_laws_markHead A_laws_markHead Try.f21 n TyHead a0 (.pair .no (.pair .no (.pair .no (.pair .no (.pair .no (.pair .no (.pair .no (.pair .no (.pair (.pair (.own 0) .no) (.pair (.pair (.own 1) .no) (.pair .no (.pair (.pair (.own 2) .no) .no)))))))))))) a1 = laws_markHead (fun r0 r1 => some [⟨(.int .i64), r0⟩, ⟨TyHead, r1⟩])  a0 a1 := aP_laws_markHead N.laws_markKeys n a0 a1
theorem said_laws_markHead (a0 : THead) (a1 : Int) : SaidL Try.prog 21 TyHead a0 (.pair .no (.pair .no (.pair .no (.pair .no (.pair .no (.pair .no (.pair .no (.pair .no (.pair (.pair (.own 0) .no) (.pair (.pair (.own 1) .no) (.pair .no (.pair (.pair (.own 2) .no) .no)))))))))))) a1 [⟨(.int .i64), (N.laws_markHead a0 a1).1⟩, ⟨TyHead, (N.laws_markHead a0 a1).2⟩] := said_lenM (T := tab) (A := A_laws_markHead) tabOk ok_laws_markHead tabOk.follows rfl Try.func21 (by kernel_rfl) (by kernel_rfl) (fun hl => ⟨0, (a_laws_markHead 0 a0 a1).trans (laws_markHead_ok (ρ := Ret) (fun r0 r1 => some [⟨(.int .i64), r0⟩, ⟨TyHead, r1⟩]) a0 a1 hl)⟩)
/-! laws.heldIntS -/
abbrev N.laws_heldIntS (l : List Int) (k : Int) : Int := heldI l k
def laws_heldIntS_L0 {ρ : Type} (k : Int → Option ρ) (L0 : (List Int) → Int → Int → Option ρ) (v0_0 : (List Int)) (v0_1 : Int) (v0_2 : Int) : Option ρ := (cond (decide (v0_2 < (List.length v0_0 : Int))) (cond (inRange v0_2 (List.length v0_0)) (cond ((List.getD v0_0 (Int.toNat v0_2) (0 : Int)) != v0_1) (k (-1 : Int)) (L0 v0_0 (IntKind.wrap .i64 (v0_1 + (1 : Int))) (IntKind.wrap .i64 (v0_2 + (1 : Int))))) none) (k v0_1))
def laws_heldIntS {ρ : Type} (k : Int → Option ρ) (L0 : (List Int) → Int → Int → Option ρ) (a0 : (List Int)) (a1 : Int) : Option ρ := (L0 a0 a1 (0 : Int))
theorem laws_heldIntS_ok {ρ : Type} (k : Int → Option ρ) (a0 : (List Int)) (a1 : Int) (l_a0 : lnL (fun _ => True) a0) : ∃ n0, ∀ n, n0 ≤ n → ∀ (L0 : Nat → (List Int) → Int → Int → Option ρ) (h0 : ∀ ( m : Nat) (v0_0 : (List Int)) (v0_1 : Int) (v0_2 : Int), L0 (m + 1) v0_0 v0_1 v0_2 = laws_heldIntS_L0 k (L0 m) v0_0 v0_1 v0_2), laws_heldIntS k (L0 n) a0 a1 = k (N.laws_heldIntS a0 a1) := by
  refine ⟨a0.length + 1, fun n hn L0 h0 => ?_⟩
  refine raw_held (c := fun a k => a == k) (s := s1) (K := k) (L := fun m k i => L0 m a0 k i) 0 l_a0.1 (fun m k' j hj => ?_) (fun m k' => ?_) hn
  · have : j < big := by have := l_a0.1; omega
    show L0 (m + 1) a0 k' (j : Int) = _
    rw [h0]
    simp only [laws_heldIntS_L0, lt_nat, inRange_nat, hj, wrap_succ this, s1, decide_true, cond_true, bne, Int.toNat_natCast]
    cases (a0.getD j 0 == k') <;> rfl
  · show L0 (m + 1) a0 k' (a0.length : Int) = _
    rw [h0]
    simp [laws_heldIntS_L0]
def O_laws_heldIntS : Orac := nilO
theorem ok_laws_heldIntS : OracOk Try.prog sigs O_laws_heldIntS := nilO_ok
def A_laws_heldIntS : Ann := fun b => cond (Nat.beq b 0) ⟨[(0, false), (1, false), (5, false)], []⟩ (⟨[], []⟩)
def S_laws_heldIntS_0 (v0_0 : (List Int)) (v0_1 : Int) (v0_2 : Int) : St := [(kT 0, some (.tv (.v (.slice 3 (.int .i64)) v0_0 .no))), (kT 1, some (.tv (.v (.int .i64) v0_1 .no))), (kT 5, some (.tv (.v (.int .i64) v0_2 .no)))]
noncomputable def L_laws_heldIntS_0 (n m : Nat) : St → Option Ret := loopOf tab sigs O_laws_heldIntS A_laws_heldIntS Try.f59 [((.int .i64), .no)] n (fun _ => 0) 0 m
theorem b_laws_heldIntS_0 (n m : Nat) (v0_0 : (List Int)) (v0_1 : Int) (v0_2 : Int) : L_laws_heldIntS_0 n (m + 1) (S_laws_heldIntS_0 v0_0 v0_1 v0_2) = laws_heldIntS_L0 (fun r0 => some [⟨(.int .i64), r0⟩]) (fun v0_0 v0_1 v0_2 => L_laws_heldIntS_0 n m (S_laws_heldIntS_0 v0_0 v0_1 v0_2)) v0_0 v0_1 v0_2 := by kernel_rfl
theorem a_laws_heldIntS (n : Nat) (a0 : (List Int)) (a1 : Int) : absF tab sigs O_laws_heldIntS A_laws_heldIntS Try.f59 [((.int .i64), .no)] n [.val (.slice 3 (.int .i64)) a0, .val (.int .i64) a1] = laws_heldIntS (fun r0 => some [⟨(.int .i64), r0⟩]) (fun v0_0 v0_1 v0_2 => L_laws_heldIntS_0 n n (S_laws_heldIntS_0 v0_0 v0_1 v0_2)) a0 a1 := by kernel_rfl
theorem said_laws_heldIntS (a0 : (List Int)) (a1 : Int) : Said Try.prog sigs_59 59 [.val (.slice 3 (.int .i64)) a0, .val (.int .i64) a1] [⟨(.int .i64), N.laws_heldIntS a0 a1⟩] := said_len (T := tab) (A := A_laws_heldIntS) tabOk ok_laws_heldIntS tabOk.follows Try.func59 (by kernel_rfl) (by kernel_rfl) (fun hl => let ⟨n, hn⟩ := laws_heldIntS_ok (ρ := Ret) (fun r0 => some [⟨(.int .i64), r0⟩]) a0 a1 hl.1; ⟨n, (a_laws_heldIntS n a0 a1).trans (hn n (Nat.le_refl n) (fun  m v0_0 v0_1 v0_2 => L_laws_heldIntS_0 n  m (S_laws_heldIntS_0 v0_0 v0_1 v0_2)) (fun  m v0_0 v0_1 v0_2 => b_laws_heldIntS_0 n  m v0_0 v0_1 v0_2))⟩)
/-! laws.heldKeys -/
abbrev N.laws_heldKeys (a : TKeys) (k : Int) : Int := neg1 (heldI a.1 k)
def laws_heldKeys {ρ : Type} (k : Int → Option ρ) (a0 : TKeys) (a1 : Int) : Option ρ := (cond (decide ((N.laws_heldIntS a0.1 a1) < (0 : Int))) (k (-1 : Int)) (k (N.laws_heldIntS a0.1 a1)))
theorem laws_heldKeys_ok {ρ : Type} (k : Int → Option ρ) (a0 : TKeys) (a1 : Int) (l_a0 : (lnL (fun _ => True) a0.1 ∧ True)) : laws_heldKeys k  a0 a1 = k (N.laws_heldKeys a0 a1) := by
  show cond (decide (heldI a0.1 a1 < 0)) (k (-1)) (k (heldI a0.1 a1)) = k (neg1 (heldI a0.1 a1))
  unfold neg1
  cases decide (heldI a0.1 a1 < 0) <;> rfl
def OP_laws_heldKeys (f_laws_heldIntS : (List Int) → Int → Int) : Orac := (orcX 59 [.val (.slice 3 (.int .i64)), .val (.int .i64)] (fun d => true) (fun d => [⟨(.int .i64), f_laws_heldIntS d.1 d.2.1⟩]) nilO)
def O_laws_heldKeys : Orac := OP_laws_heldKeys N.laws_heldIntS
def laws_heldKeys_P {ρ : Type} (f_laws_heldIntS : (List Int) → Int → Int) (k : Int → Option ρ) (a0 : TKeys) (a1 : Int) : Option ρ := (cond (decide ((f_laws_heldIntS a0.1 a1) < (0 : Int))) (k (-1 : Int)) (k (f_laws_heldIntS a0.1 a1)))
theorem ok_laws_heldKeys : OracOk Try.prog sigs O_laws_heldKeys := (orcX_ok rfl rfl (fun d g => said_laws_heldIntS d.1 d.2.1) nilO_ok)
def A_laws_heldKeys : Ann := fun b => ⟨[], []⟩
theorem aP_laws_heldKeys (f_laws_heldIntS : (List Int) → Int → Int) (n : Nat) (a0 : TKeys) (a1 : Int) : absF tab sigs (OP_laws_heldKeys f_laws_heldIntS) A_laws_heldKeys Try.f24 [((.int .i64), .no)] n [.val (.pair (.slice 3 (.int .i64)) (.int .i64)) a0, .val (.int .i64) a1] = laws_heldKeys_P f_laws_heldIntS (fun r0 => some [⟨(.int .i64), r0⟩])  a0 a1 := by kernel_rfl
theorem a_laws_heldKeys (n : Nat) (a0 : TKeys) (a1 : Int) : absF tab sigs O_laws_heldKeys A_laws_heldKeys Try.f24 [((.int .i64), .no)] n [.val (.pair (.slice 3 (.int .i64)) (.int .i64)) a0, .val (.int .i64) a1] = laws_heldKeys (fun r0 => some [⟨(.int .i64), r0⟩])  a0 a1 := aP_laws_heldKeys N.laws_heldIntS n a0 a1
theorem said_laws_heldKeys (a0 : TKeys) (a1 : Int) : Said Try.prog sigs_24 24 [.val (.pair (.slice 3 (.int .i64)) (.int .i64)) a0, .val (.int .i64) a1] [⟨(.int .i64), N.laws_heldKeys a0 a1⟩] := said_len (T := tab) (A := A_laws_heldKeys) tabOk ok_laws_heldKeys tabOk.follows Try.func24 (by kernel_rfl) (by kernel_rfl) (fun hl => ⟨0, (a_laws_heldKeys 0 a0 a1).trans (laws_heldKeys_ok (ρ := Ret) (fun r0 => some [⟨(.int .i64), r0⟩]) a0 a1 hl.1)⟩)
/-! laws.heldHead -/
abbrev N.laws_heldHead (a : THead) (k : Int) : Int := heldH3 a.2.2.2.2.2.2.2.2.1.1 a.2.2.2.2.2.2.2.2.2.1.1 a.2.2.2.2.2.2.2.2.2.2.2.1.1 k
def laws_heldHead {ρ : Type} (k : Int → Option ρ) (a0 : THead) (a1 : Int) : Option ρ := (cond (decide ((N.laws_heldKeys a0.2.2.2.2.2.2.2.2.1 a1) < (0 : Int))) (k (-1 : Int)) (cond (decide ((N.laws_heldKeys a0.2.2.2.2.2.2.2.2.2.1 (N.laws_heldKeys a0.2.2.2.2.2.2.2.2.1 a1)) < (0 : Int))) (k (-1 : Int)) (cond (decide ((N.laws_heldKeys a0.2.2.2.2.2.2.2.2.2.2.2.1 (N.laws_heldKeys a0.2.2.2.2.2.2.2.2.2.1 (N.laws_heldKeys a0.2.2.2.2.2.2.2.2.1 a1))) < (0 : Int))) (k (-1 : Int)) (k (N.laws_heldKeys a0.2.2.2.2.2.2.2.2.2.2.2.1 (N.laws_heldKeys a0.2.2.2.2.2.2.2.2.2.1 (N.laws_heldKeys a0.2.2.2.2.2.2.2.2.1 a1)))))))
theorem laws_heldHead_ok {ρ : Type} (k : Int → Option ρ) (a0 : THead) (a1 : Int) (l_a0 : (lenT TyHead a0)) : laws_heldHead k  a0 a1 = k (N.laws_heldHead a0 a1) := by
  simp only [laws_heldHead, N.laws_heldKeys, heldH3, thenH, k_cond]
  rfl
def OP_laws_heldHead (f_laws_heldKeys : TKeys → Int → Int) : Orac := (orcX 24 [.val (.pair (.slice 3 (.int .i64)) (.int .i64)), .val (.int .i64)] (fun d => true) (fun d => [⟨(.int .i64), f_laws_heldKeys d.1 d.2.1⟩]) nilO)
def O_laws_heldHead : Orac := OP_laws_heldHead N.laws_heldKeys
def laws_heldHead_P {ρ : Type} (f_laws_heldKeys : TKeys → Int → Int) (k : Int → Option ρ) (a0 : THead) (a1 : Int) : Option ρ := (cond (decide ((f_laws_heldKeys a0.2.2.2.2.2.2.2.2.1 a1) < (0 : Int))) (k (-1 : Int)) (cond (decide ((f_laws_heldKeys a0.2.2.2.2.2.2.2.2.2.1 (f_laws_heldKeys a0.2.2.2.2.2.2.2.2.1 a1)) < (0 : Int))) (k (-1 : Int)) (cond (decide ((f_laws_heldKeys a0.2.2.2.2.2.2.2.2.2.2.2.1 (f_laws_heldKeys a0.2.2.2.2.2.2.2.2.2.1 (f_laws_heldKeys a0.2.2.2.2.2.2.2.2.1 a1))) < (0 : Int))) (k (-1 : Int)) (k (f_laws_heldKeys a0.2.2.2.2.2.2.2.2.2.2.2.1 (f_laws_heldKeys a0.2.2.2.2.2.2.2.2.2.1 (f_laws_heldKeys a0.2.2.2.2.2.2.2.2.1 a1)))))))
theorem ok_laws_heldHead : OracOk Try.prog sigs O_laws_heldHead := (orcX_ok rfl rfl (fun d g => said_laws_heldKeys d.1 d.2.1) nilO_ok)
def A_laws_heldHead : Ann := fun b => ⟨[], []⟩
theorem aP_laws_heldHead (f_laws_heldKeys : TKeys → Int → Int) (n : Nat) (a0 : THead) (a1 : Int) : absF tab sigs (OP_laws_heldHead f_laws_heldKeys) A_laws_heldHead Try.f38 [((.int .i64), .no)] n [.val TyHead a0, .val (.int .i64) a1] = laws_heldHead_P f_laws_heldKeys (fun r0 => some [⟨(.int .i64), r0⟩])  a0 a1 := by kernel_rfl
theorem a_laws_heldHead (n : Nat) (a0 : THead) (a1 : Int) : absF tab sigs O_laws_heldHead A_laws_heldHead Try.f38 [((.int .i64), .no)] n [.val TyHead a0, .val (.int .i64) a1] = laws_heldHead (fun r0 => some [⟨(.int .i64), r0⟩])  a0 a1 := aP_laws_heldHead N.laws_heldKeys n a0 a1
theorem said_laws_heldHead (a0 : THead) (a1 : Int) : Said Try.prog sigs_38 38 [.val TyHead a0, .val (.int .i64) a1] [⟨(.int .i64), N.laws_heldHead a0 a1⟩] := said_len (T := tab) (A := A_laws_heldHead) tabOk ok_laws_heldHead tabOk.follows Try.func38 (by kernel_rfl) (by kernel_rfl) (fun hl => ⟨0, (a_laws_heldHead 0 a0 a1).trans (laws_heldHead_ok (ρ := Ret) (fun r0 => some [⟨(.int .i64), r0⟩]) a0 a1 hl.1)⟩)
end Go.Proofs.Ythcenfbfgjcikaa.Ref
