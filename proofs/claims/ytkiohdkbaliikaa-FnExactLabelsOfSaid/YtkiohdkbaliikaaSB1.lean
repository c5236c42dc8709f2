/- Functions of the program: what each computes, and that it does so.
   Conditions: as each theorem states. -/
import Derived.Test.YtkiohdkbaliikaaSB0
set_option linter.unusedVariables false
set_option linter.unusedSimpArgs false
set_option maxRecDepth 100000
namespace Go.Proofs.Ytkiohdkbaliikaa.Ref
open Go.RowKit Go.Proofs.YtkiohdkbaliikaaW.PrintWords Go.Proofs.YtkiohdkbaliikaaW.PrintLast
/-! laws.heldStringS -/
abbrev N.laws_heldStringS (l : List ByteArray) (k : Int) : Int := heldS l k
def laws_heldStringS_L0 {ρ : Type} (k : Int → Option ρ) (L0 : (List ByteArray) → Int → Int → Option ρ) (v0_0 : (List ByteArray)) (v0_1 : Int) (v0_2 : Int) : Option ρ := (cond (decide (v0_2 < (List.length v0_0 : Int))) (cond (inRange v0_2 (List.length v0_0)) (cond (!((ByteArray.toList (List.getD v0_0 (Int.toNat v0_2) ByteArray.empty)) == (ByteArray.toList (N.laws_markText v0_1)))) (k (-1 : Int)) (L0 v0_0 (IntKind.wrap .i64 (v0_1 + (1 : Int))) (IntKind.wrap .i64 (v0_2 + (1 : Int))))) none) (k v0_1))
def laws_heldStringS {ρ : Type} (k : Int → Option ρ) (L0 : (List ByteArray) → Int → Int → Option ρ) (a0 : (List ByteArray)) (a1 : Int) : Option ρ := (L0 a0 a1 (0 : Int))
theorem laws_heldStringS_ok {ρ : Type} (k : Int → Option ρ) (a0 : (List ByteArray)) (a1 : Int) (l_a0 : lnL (fun _ => True) a0) : ∃ n0, ∀ n, n0 ≤ n → ∀ (L0 : Nat → (List ByteArray) → Int → Int → Option ρ) (h0 : ∀ ( m : Nat) (v0_0 : (List ByteArray)) (v0_1 : Int) (v0_2 : Int), L0 (m + 1) v0_0 v0_1 v0_2 = laws_heldStringS_L0 k (L0 m) v0_0 v0_1 v0_2), laws_heldStringS k (L0 n) a0 a1 = k (N.laws_heldStringS a0 a1) := by
  refine ⟨a0.length + 1, fun n hn L0 h0 => ?_⟩
  refine raw_held (c := fun a k => eqStr a (markTextM k)) (s := s1) (K := k) (L := fun m k i => L0 m a0 k i) ByteArray.empty l_a0.1 (fun m k' j hj => ?_) (fun m k' => ?_) hn
  · have : j < big := by have := l_a0.1; omega
    show L0 (m + 1) a0 k' (j : Int) = _
    rw [h0]
    simp only [laws_heldStringS_L0, lt_nat, inRange_nat, hj, wrap_succ this, s1, decide_true, cond_true, Int.toNat_natCast, eqStr]
    cases (ByteArray.toList (a0.getD j ByteArray.empty) == ByteArray.toList (markTextM k')) <;> rfl
  · show L0 (m + 1) a0 k' (a0.length : Int) = _
    rw [h0]
    simp [laws_heldStringS_L0]
def OP_laws_heldStringS (f_laws_markText : Int → ByteArray) : Orac := (orcX 39 [.val (.int .i64)] (fun d => true) (fun d => [⟨.str, f_laws_markText d.1⟩]) nilO)
def O_laws_heldStringS : Orac := OP_laws_heldStringS N.laws_markText
def laws_heldStringS_P_L0 {ρ : Type} (f_laws_markText : Int → ByteArray) (k : Int → Option ρ) (L0 : (List ByteArray) → Int → Int → Option ρ) (v0_0 : (List ByteArray)) (v0_1 : Int) (v0_2 : Int) : Option ρ := (cond (decide (v0_2 < (List.length v0_0 : Int))) (cond (inRange v0_2 (List.length v0_0)) (cond (!((ByteArray.toList (List.getD v0_0 (Int.toNat v0_2) ByteArray.empty)) == (ByteArray.toList (f_laws_markText v0_1)))) (k (-1 : Int)) (L0 v0_0 (IntKind.wrap .i64 (v0_1 + (1 : Int))) (IntKind.wrap .i64 (v0_2 + (1 : Int))))) none) (k v0_1))
def laws_heldStringS_P {ρ : Type} (f_laws_markText : Int → ByteArray) (k : Int → Option ρ) (L0 : (List ByteArray) → Int → Int → Option ρ) (a0 : (List ByteArray)) (a1 : Int) : Option ρ := (L0 a0 a1 (0 : Int))
theorem ok_laws_heldStringS : OracOk Try.prog sigs O_laws_heldStringS := (orcX_ok rfl rfl (fun d g => said_laws_markText d.1) nilO_ok)
def A_laws_heldStringS : Ann := fun b => cond (Nat.beq b 0) ⟨[(0, false), (1, false), (5, false)], []⟩ (⟨[], []⟩)
def S_laws_heldStringS_0 (v0_0 : (List ByteArray)) (v0_1 : Int) (v0_2 : Int) : St := [(kT 0, some (.tv (.v (.slice 9 .str) v0_0 .no))), (kT 1, some (.tv (.v (.int .i64) v0_1 .no))), (kT 5, some (.tv (.v (.int .i64) v0_2 .no)))]
noncomputable def L_P_laws_heldStringS_0 (f_laws_markText : Int → ByteArray) (n m : Nat) : St → Option Ret := loopOf tab sigs (OP_laws_heldStringS f_laws_markText) A_laws_heldStringS Try.f32 [((.int .i64), .no)] n (fun _ => 0) 0 m
noncomputable def L_laws_heldStringS_0 (n m : Nat) : St → Option Ret := L_P_laws_heldStringS_0 N.laws_markText n m
theorem bP_laws_heldStringS_0 (f_laws_markText : Int → ByteArray) (n m : Nat) (v0_0 : (List ByteArray)) (v0_1 : Int) (v0_2 : Int) : L_P_laws_heldStringS_0 f_laws_markText n (m + 1) (S_laws_heldStringS_0 v0_0 v0_1 v0_2) = laws_heldStringS_P_L0 f_laws_markText (fun r0 => some [⟨(.int .i64), r0⟩]) (fun v0_0 v0_1 v0_2 => L_P_laws_heldStringS_0 f_laws_markText n m (S_laws_heldStringS_0 v0_0 v0_1 v0_2)) v0_0 v0_1 v0_2 := by kernel_rfl
theorem b_laws_heldStringS_0 (n m : Nat) (v0_0 : (List ByteArray)) (v0_1 : Int) (v0_2 : Int) : L_laws_heldStringS_0 n (m + 1) (S_laws_heldStringS_0 v0_0 v0_1 v0_2) = laws_heldStringS_L0 (fun r0 => some [⟨(.int .i64), r0⟩]) (fun v0_0 v0_1 v0_2 => L_laws_heldStringS_0 n m (S_laws_heldStringS_0 v0_0 v0_1 v0_2)) v0_0 v0_1 v0_2 := bP_laws_heldStringS_0 N.laws_markText n m v0_0 v0_1 v0_2
theorem aP_laws_heldStringS (f_laws_markText : Int → ByteArray) (n : Nat) (a0 : (List ByteArray)) (a1 : Int) : absF tab sigs (OP_laws_heldStringS f_laws_markText) A_laws_heldStringS Try.f32 [((.int .i64), .no)] n [.val (.slice 9 .str) a0, .val (.int .i64) a1] = laws_heldStringS_P f_laws_markText (fun r0 => some [⟨(.int .i64), r0⟩]) (fun v0_0 v0_1 v0_2 => L_P_laws_heldStringS_0 f_laws_markText n n (S_laws_heldStringS_0 v0_0 v0_1 v0_2)) a0 a1 := by kernel_rfl
theorem a_laws_heldStringS (n : Nat) (a0 : (List ByteArray)) (a1 : Int) : absF tab sigs O_laws_heldStringS A_laws_heldStringS Try.f32 [((.int .i64), .no)] n [.val (.slice 9 .str) a0, .val (.int .i64) a1] = laws_heldStringS (fun r0 => some [⟨(.int .i64), r0⟩]) (fun v0_0 v0_1 v0_2 => L_laws_heldStringS_0 n n (S_laws_heldStringS_0 v0_0 v0_1 v0_2)) a0 a1 := aP_laws_heldStringS N.laws_markText n a0 a1
theorem said_laws_heldStringS (a0 : (List ByteArray)) (a1 : Int) : Said Try.prog sigs_32 32 [.val (.slice 9 .str) a0, .val (.int .i64) a1] [⟨(.int .i64), N.laws_heldStringS a0 a1⟩] := said_len (T := tab) (A := A_laws_heldStringS) tabOk ok_laws_heldStringS tabOk.follows Try.func32 (by kernel_rfl) (by kernel_rfl) (fun hl => let ⟨n, hn⟩ := laws_heldStringS_ok (ρ := Ret) (fun r0 => some [⟨(.int .i64), r0⟩]) a0 a1 hl.1; ⟨n, (a_laws_heldStringS n a0 a1).trans (hn n (Nat.le_refl n) (fun  m v0_0 v0_1 v0_2 => L_laws_heldStringS_0 n  m (S_laws_heldStringS_0 v0_0 v0_1 v0_2)) (fun  m v0_0 v0_1 v0_2 => b_laws_heldStringS_0 n  m v0_0 v0_1 v0_2))⟩)
end Go.Proofs.Ytkiohdkbaliikaa.Ref
