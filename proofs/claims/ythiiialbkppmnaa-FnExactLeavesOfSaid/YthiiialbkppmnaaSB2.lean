/- Functions of the program: what each computes, and that it does so.
   Conditions: as each theorem states. -/
import Derived.Test.YthiiialbkppmnaaSB1
set_option linter.unusedVariables false
set_option linter.unusedSimpArgs false
set_option maxRecDepth 100000
namespace Go.Proofs.Ythiiialbkppmnaa.Ref
open Go.RowKit Go.Proofs.YthiiialbkppmnaaW.PrintWords Go.Proofs.YthiiialbkppmnaaW.PrintLast
/-! laws.markIntS -/
abbrev N.laws_markIntS (l : List Int) (k : Int) : Int × List Int := (upI k l.length, mkI k l.length)
def laws_markIntS_L0 {ρ : Type} (k : Int → (List Int) → Option ρ) (L0 : Int → Int → (List Int) → Option ρ) (v0_0 : Int) (v0_1 : Int) (v0_2 : (List Int)) : Option ρ := (cond (decide (v0_1 < (List.length v0_2 : Int))) (cond (inRange v0_1 (List.length v0_2)) (cond (inRange v0_1 (List.length v0_2)) (L0 (IntKind.wrap .i64 (v0_0 + (1 : Int))) (IntKind.wrap .i64 (v0_1 + (1 : Int))) (List.set v0_2 (Int.toNat v0_1) v0_0)) none) none) (k v0_0 v0_2))
def laws_markIntS {ρ : Type} (k : Int → (List Int) → Option ρ) (L0 : Int → Int → (List Int) → Option ρ) (a0 : (List Int)) (a1 : Int) : Option ρ := (L0 a1 (0 : Int) a0)
theorem laws_markIntS_ok {ρ : Type} (k : Int → (List Int) → Option ρ) (a0 : (List Int)) (a1 : Int) (l_a0 : lnL (fun _ => True) a0) : ∃ n0, ∀ n, n0 ≤ n → ∀ (L0 : Nat → Int → Int → (List Int) → Option ρ) (h0 : ∀ ( m : Nat) (v0_0 : Int) (v0_1 : Int) (v0_2 : (List Int)), L0 (m + 1) v0_0 v0_1 v0_2 = laws_markIntS_L0 k (L0 m) v0_0 v0_1 v0_2), laws_markIntS k (L0 n) a0 a1 = k (N.laws_markIntS a0 a1).1 (N.laws_markIntS a0 a1).2 := by
  refine ⟨a0.length + 1, fun n hn L0 h0 => ?_⟩
  refine raw_mark (v := fun k => k) (s := s1) (K := k) (L := L0) l_a0.1 (fun m k' j p hp hj => ?_) (fun m k' p hp => ?_) hn
  · have : j < big := by have := l_a0.1; omega
    rw [h0]
    simp [laws_markIntS_L0, lt_nat, inRange_nat, hj, wrap_succ this, s1]
  · rw [h0]
    simp [laws_markIntS_L0, lt_nat, hp]
def O_laws_markIntS : Orac := nilO
theorem ok_laws_markIntS : OracOk Try.prog sigs O_laws_markIntS := nilO_ok
def A_laws_markIntS : Ann := fun b => cond (Nat.beq b 0) ⟨[(0, true), (1, false), (5, false)], []⟩ (⟨[], []⟩)
def S_laws_markIntS_0 (v0_0 : Int) (v0_1 : Int) (v0_2 : (List Int)) : St := [(kT 0, some (.tv (.v (.slice 3 (.int .i64)) [] (.own 0)))), (kT 1, some (.tv (.v (.int .i64) v0_0 .no))), (kT 5, some (.tv (.v (.int .i64) v0_1 .no))), (kR 0, some (.row 3 (.int .i64) v0_2))]
noncomputable def L_laws_markIntS_0 (n m : Nat) : St → Option Ret := loopOf tab sigs O_laws_markIntS A_laws_markIntS (lentF Try.f16) [((.int .i64), .no), ((.slice 3 (.int .i64)), (.own 0))] n (fun _ => 0) 0 m
theorem b_laws_markIntS_0 (n m : Nat) (v0_0 : Int) (v0_1 : Int) (v0_2 : (List Int)) : L_laws_markIntS_0 n (m + 1) (S_laws_markIntS_0 v0_0 v0_1 v0_2) = laws_markIntS_L0 (fun r0 r1 => some [⟨(.int .i64), r0⟩, ⟨(.slice 3 (.int .i64)), r1⟩]) (fun v0_0 v0_1 v0_2 => L_laws_markIntS_0 n m (S_laws_markIntS_0 v0_0 v0_1 v0_2)) v0_0 v0_1 v0_2 := by kernel_rfl
theorem a_laws_markIntS (n : Nat) (a0 : (List Int)) (a1 : Int) : absFM tab sigs O_laws_markIntS A_laws_markIntS Try.f16 n (.slice 3 (.int .i64)) a0 (.own 0) a1 = laws_markIntS (fun r0 r1 => some [⟨(.int .i64), r0⟩, ⟨(.slice 3 (.int .i64)), r1⟩]) (fun v0_0 v0_1 v0_2 => L_laws_markIntS_0 n n (S_laws_markIntS_0 v0_0 v0_1 v0_2)) a0 a1 := by kernel_rfl
theorem said_laws_markIntS (a0 : (List Int)) (a1 : Int) : SaidL Try.prog 16 (.slice 3 (.int .i64)) a0 (.own 0) a1 [⟨(.int .i64), (N.laws_markIntS a0 a1).1⟩, ⟨(.slice 3 (.int .i64)), (N.laws_markIntS a0 a1).2⟩] := said_lenM (T := tab) (A := A_laws_markIntS) tabOk ok_laws_markIntS tabOk.follows rfl Try.func16 (by kernel_rfl) (by kernel_rfl) (fun hl => let ⟨n, hn⟩ := laws_markIntS_ok (ρ := Ret) (fun r0 r1 => some [⟨(.int .i64), r0⟩, ⟨(.slice 3 (.int .i64)), r1⟩]) a0 a1 hl; ⟨n, (a_laws_markIntS n a0 a1).trans (hn n (Nat.le_refl n) (fun  m v0_0 v0_1 v0_2 => L_laws_markIntS_0 n  m (S_laws_markIntS_0 v0_0 v0_1 v0_2)) (fun  m v0_0 v0_1 v0_2 => b_laws_markIntS_0 n  m v0_0 v0_1 v0_2))⟩)
/-! laws.heldIntS -/
abbrev N.laws_heldIntS (l : List Int) (k : Int) : Int := heldI l k
def laws_heldIntS_L0 {ρ : Type} (k : Int → Option ρ) (L0 : (List Int) → Int → Int → Option ρ) (v0_0 : (List Int)) (v0_1 : Int) (v0_2 : Int) : Option ρ := (cond (decide (v0_2 < (List.length v0_0 : Int))) (cond (inRange v0_2 (List.length v0_0)) (cond ((List.getD v0_0 (Int.toNat v0_2) (0 : Int)) != v0_1) (k (-1 : Int)) (L0 v0_0 (IntKind.wrap .i64 (v0_1 + (1 : Int))) (IntKind.wrap .i64 (v0_2 + (1 : Int))))) none) (k v0_1))
def laws_heldIntS {ρ : Type} (k : Int → Option ρ) (L0 : (List Int) → Int → Int → Option ρ) (a0 : (List Int)) (a1 : Int) : Option ρ := (L0 a0 a1 (0 : Int))
theorem laws_heldIntS_ok {ρ : Type} (k : Int → Option ρ) (a0 : (List Int)) (a1 : Int) (l_a0 : lnL (fun _ => True) a0) : ∃ n0, ∀ n, n0 ≤ n → ∀ (L0 : Nat → (List Int) → Int → Int → Option ρ) (h0 : ∀ ( m : Nat) (v0_0 : (List Int)) (v0_1 : Int) (v0_2 : Int), L0 (m + 1) v0_0 v0_1 v0_2 = laws_heldIntS_L0 k (L0 m) v0_0 v0_1 v0_2), laws_heldIntS k (L0 n) a0 a1 = k (N.laws_heldIntS a0 a1) := by
  refine ⟨a0.length + 1, fun n hn L0 h0 => ?_⟩
  refine raw_held (c := fun a k => a == k) (s := s1) (K := k) (L := fun m k i => L0 m a0 k i) 0 l_a0.1 (fun m k' j hj => ?_) (fun m k' => ?_) hn
  · have : j < big := by have := l_a0.1; omega
    show L0 (m + 1) a0 k' (j : Int) = _
    rw [h0]
    simp only [laws_heldIntS_L0, lt_nat, inRange_nat, hj, wrap_succ this, s1, decide_true, cond_true, bne, Int.toNat_natCast]
    cases (a0.getD j 0 == k') <;> rfl
  · show L0 (m + 1) a0 k' (a0.length : Int) = _
    rw [h0]
    simp [laws_heldIntS_L0]
def O_laws_heldIntS : Orac := nilO
theorem ok_laws_heldIntS : OracOk Try.prog sigs O_laws_heldIntS := nilO_ok
def A_laws_heldIntS : Ann := fun b => cond (Nat.beq b 0) ⟨[(0, false), (1, false), (5, false)], []⟩ (⟨[], []⟩)
def S_laws_heldIntS_0 (v0_0 : (List Int)) (v0_1 : Int) (v0_2 : Int) : St := [(kT 0, some (.tv (.v (.slice 3 (.int .i64)) v0_0 .no))), (kT 1, some (.tv (.v (.int .i64) v0_1 .no))), (kT 5, some (.tv (.v (.int .i64) v0_2 .no)))]
noncomputable def L_laws_heldIntS_0 (n m : Nat) : St → Option Ret := loopOf tab sigs O_laws_heldIntS A_laws_heldIntS Try.f17 [((.int .i64), .no)] n (fun _ => 0) 0 m
theorem b_laws_heldIntS_0 (n m : Nat) (v0_0 : (List Int)) (v0_1 : Int) (v0_2 : Int) : L_laws_heldIntS_0 n (m + 1) (S_laws_heldIntS_0 v0_0 v0_1 v0_2) = laws_heldIntS_L0 (fun r0 => some [⟨(.int .i64), r0⟩]) (fun v0_0 v0_1 v0_2 => L_laws_heldIntS_0 n m (S_laws_heldIntS_0 v0_0 v0_1 v0_2)) v0_0 v0_1 v0_2 := by kernel_rfl
theorem a_laws_heldIntS (n : Nat) (a0 : (List Int)) (a1 : Int) : absF tab sigs O_laws_heldIntS A_laws_heldIntS Try.f17 [((.int .i64), .no)] n [.val (.slice 3 (.int .i64)) a0, .val (.int .i64) a1] = laws_heldIntS (fun r0 => some [⟨(.int .i64), r0⟩]) (fun v0_0 v0_1 v0_2 => L_laws_heldIntS_0 n n (S_laws_heldIntS_0 v0_0 v0_1 v0_2)) a0 a1 := by kernel_rfl
theorem said_laws_heldIntS (a0 : (List Int)) (a1 : Int) : Said Try.prog sigs_17 17 [.val (.slice 3 (.int .i64)) a0, .val (.int .i64) a1] [⟨(.int .i64), N.laws_heldIntS a0 a1⟩] := said_len (T := tab) (A := A_laws_heldIntS) tabOk ok_laws_heldIntS tabOk.follows Try.func17 (by kernel_rfl) (by kernel_rfl) (fun hl => let ⟨n, hn⟩ := laws_heldIntS_ok (ρ := Ret) (fun r0 => some [⟨(.int .i64), r0⟩]) a0 a1 hl.1; ⟨n, (a_laws_heldIntS n a0 a1).trans (hn n (Nat.le_refl n) (fun  m v0_0 v0_1 v0_2 => L_laws_heldIntS_0 n  m (S_laws_heldIntS_0 v0_0 v0_1 v0_2)) (fun  m v0_0 v0_1 v0_2 => b_laws_heldIntS_0 n  m v0_0 v0_1 v0_2))⟩)
end Go.Proofs.Ythiiialbkppmnaa.Ref
