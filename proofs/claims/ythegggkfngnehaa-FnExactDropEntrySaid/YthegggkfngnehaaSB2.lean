/- Functions of the program: what each computes, and that it does so.
   Conditions: as each theorem states. -/
import Derived.Test.YthegggkfngnehaaSB1
set_option linter.unusedVariables false
set_option linter.unusedSimpArgs false
set_option maxRecDepth 100000
namespace Go.Proofs.Ythegggkfngnehaa.Ref
open Go.RowKit Go.Proofs.YthegggkfngnehaaW.PrintWords Go.Proofs.YthegggkfngnehaaW.PrintLast
abbrev N.laws_heldStringS (l : List ByteArray) (k : Int) : Int := heldS l k
def laws_heldStringS_P_L0 {ρ : Type} (f0 : Int → ByteArray) (k : Int → Option ρ) (L0 : (List ByteArray) → Int → Int → Option ρ) (v0_0 : (List ByteArray)) (v0_1 : Int) (v0_2 : Int) : Option ρ := (cond (decide (v0_2 < (List.length v0_0 : Int))) (cond (inRange v0_2 (List.length v0_0)) (cond (!((ByteArray.toList (List.getD v0_0 (Int.toNat v0_2) ByteArray.empty)) == (ByteArray.toList (f0 v0_1)))) (k (-1 : Int)) (L0 v0_0 (IntKind.wrap .i64 (v0_1 + (1 : Int))) (IntKind.wrap .i64 (v0_2 + (1 : Int))))) none) (k v0_1))
def laws_heldStringS_P {ρ : Type} (f0 : Int → ByteArray) (k : Int → Option ρ) (L0 : (List ByteArray) → Int → Int → Option ρ) (a0 : (List ByteArray)) (a1 : Int) : Option ρ := (L0 a0 a1 (0 : Int))
def laws_heldStringS_L0 {ρ : Type} (k : Int → Option ρ) (L0 : (List ByteArray) → Int → Int → Option ρ) (v0_0 : (List ByteArray)) (v0_1 : Int) (v0_2 : Int) : Option ρ := laws_heldStringS_P_L0 N.laws_markText k L0 v0_0 v0_1 v0_2
def laws_heldStringS {ρ : Type} (k : Int → Option ρ) (L0 : (List ByteArray) → Int → Int → Option ρ) (a0 : (List ByteArray)) (a1 : Int) : Option ρ := laws_heldStringS_P N.laws_markText k L0 a0 a1
theorem laws_heldStringS_ok {ρ : Type} (k : Int → Option ρ) (a0 : (List ByteArray)) (a1 : Int) (l_a0 : lnL (fun _ => True) a0) : ∃ n0, ∀ n, n0 ≤ n → ∀ (L0 : Nat → (List ByteArray) → Int → Int → Option ρ) (h0 : ∀ ( m : Nat) (v0_0 : (List ByteArray)) (v0_1 : Int) (v0_2 : Int), L0 (m + 1) v0_0 v0_1 v0_2 = laws_heldStringS_L0 k (L0 m) v0_0 v0_1 v0_2), laws_heldStringS k (L0 n) a0 a1 = k (N.laws_heldStringS a0 a1) := by
  refine ⟨a0.length + 1, fun n hn L0 h0 => ?_⟩
  refine raw_held (c := fun a k => eqStr a (markTextM k)) (s := s1) (K := k) (L := fun m k i => L0 m a0 k i) ByteArray.empty l_a0.1 (fun m k' j hj => ?_) (fun m k' => ?_) hn
  · have : j < big := by have := l_a0.1; omega
    show L0 (m + 1) a0 k' (j : Int) = _
    rw [h0]
    simp only [laws_heldStringS_L0, laws_heldStringS_P_L0, lt_nat, inRange_nat, hj, wrap_succ this, s1, decide_true, cond_true, Int.toNat_natCast, eqStr]
    cases (ByteArray.toList (a0.getD j ByteArray.empty) == ByteArray.toList (markTextM k')) <;> rfl
  · show L0 (m + 1) a0 k' (a0.length : Int) = _
    rw [h0]
    simp [laws_heldStringS_L0, laws_heldStringS_P_L0]
def OP_laws_heldStringS (f0 : Int → ByteArray) : Orac := (orcX 63 [.val (.int .i64)] (fun d => true) (fun d => [⟨.str, f0 d.1⟩]) nilO)
def O_laws_heldStringS : Orac := OP_laws_heldStringS N.laws_markText
theorem ok_laws_heldStringS : OracOk Try.prog sigs O_laws_heldStringS := (orcX_ok rfl rfl (fun d g => said_laws_markText d.1) nilO_ok)
def A_laws_heldStringS : Ann := fun b => cond (Nat.beq b 0) ⟨[(0, false), (1, false), (5, false)], []⟩ (⟨[], []⟩)
def S_laws_heldStringS_0 (v0_0 : (List ByteArray)) (v0_1 : Int) (v0_2 : Int) : St := [(kT 0, some (.tv (.v (.slice 9 .str) v0_0 .no))), (kT 1, some (.tv (.v (.int .i64) v0_1 .no))), (kT 5, some (.tv (.v (.int .i64) v0_2 .no)))]
noncomputable def L_P_laws_heldStringS_0 (f0 : Int → ByteArray) (n m : Nat) : St → Option Ret := loopOf tab sigs (OP_laws_heldStringS f0) A_laws_heldStringS Try.f84 [((.int .i64), .no)] n (fun _ => 0) 0 m
theorem bP_laws_heldStringS_0 (f0 : Int → ByteArray) (n m : Nat) (v0_0 : (List ByteArray)) (v0_1 : Int) (v0_2 : Int) : L_P_laws_heldStringS_0 f0 n (m + 1) (S_laws_heldStringS_0 v0_0 v0_1 v0_2) = laws_heldStringS_P_L0 f0 (fun r0 => some [⟨(.int .i64), r0⟩]) (fun v0_0 v0_1 v0_2 => L_P_laws_heldStringS_0 f0 n m (S_laws_heldStringS_0 v0_0 v0_1 v0_2)) v0_0 v0_1 v0_2 := by kernel_rfl
theorem aP_laws_heldStringS (f0 : Int → ByteArray) (n : Nat) (a0 : (List ByteArray)) (a1 : Int) : absF tab sigs (OP_laws_heldStringS f0) A_laws_heldStringS Try.f84 [((.int .i64), .no)] n [.val (.slice 9 .str) a0, .val (.int .i64) a1] = laws_heldStringS_P f0 (fun r0 => some [⟨(.int .i64), r0⟩]) (fun v0_0 v0_1 v0_2 => L_P_laws_heldStringS_0 f0 n n (S_laws_heldStringS_0 v0_0 v0_1 v0_2)) a0 a1 := by kernel_rfl
theorem said_laws_heldStringS (a0 : (List ByteArray)) (a1 : Int) : Said Try.prog sigs_84 84 [.val (.slice 9 .str) a0, .val (.int .i64) a1] [⟨(.int .i64), N.laws_heldStringS a0 a1⟩] := said_len (T := tab) (A := A_laws_heldStringS) tabOk ok_laws_heldStringS tabOk.follows Try.func84 (by kernel_rfl) (by kernel_rfl) (fun hl => let ⟨n, hn⟩ := laws_heldStringS_ok (ρ := Ret) (fun r0 => some [⟨(.int .i64), r0⟩]) a0 a1 hl.1; ⟨n, (aP_laws_heldStringS N.laws_markText n a0 a1).trans (hn n (Nat.le_refl n) (fun  m v0_0 v0_1 v0_2 => L_P_laws_heldStringS_0 N.laws_markText n  m (S_laws_heldStringS_0 v0_0 v0_1 v0_2)) (fun  m v0_0 v0_1 v0_2 => bP_laws_heldStringS_0 N.laws_markText n  m v0_0 v0_1 v0_2))⟩)
abbrev N.laws_heldEntryS (l : List TEntry) (k : Int) : Int := heldE l k
def laws_heldEntryS_P_L0 {ρ : Type} (f0 : Int → ByteArray) (f1 : (List ByteArray) → Int → Int) (k : Int → Option ρ) (L0 : (List TEntry) → Int → Int → Option ρ) (v0_0 : (List TEntry)) (v0_1 : Int) (v0_2 : Int) : Option ρ := (cond (decide (v0_2 < (List.length v0_0 : Int))) (cond (inRange v0_2 (List.length v0_0)) (cond (!((ByteArray.toList (List.getD v0_0 (Int.toNat v0_2) (ByteArray.empty, ((0 : Int), ((0 : Int), [])))).1) == (ByteArray.toList (f0 v0_1)))) (k (-1 : Int)) (cond (inRange v0_2 (List.length v0_0)) (cond ((List.getD v0_0 (Int.toNat v0_2) (ByteArray.empty, ((0 : Int), ((0 : Int), [])))).2.1 != (IntKind.wrap .i64 (v0_1 + (1 : Int)))) (k (-1 : Int)) (cond (inRange v0_2 (List.length v0_0)) (cond ((List.getD v0_0 (Int.toNat v0_2) (ByteArray.empty, ((0 : Int), ((0 : Int), [])))).2.2.1 != (IntKind.wrap .i64 ((IntKind.wrap .i64 (v0_1 + (1 : Int))) + (1 : Int)))) (k (-1 : Int)) (cond (inRange v0_2 (List.length v0_0)) (cond (decide ((f1 (List.getD v0_0 (Int.toNat v0_2) (ByteArray.empty, ((0 : Int), ((0 : Int), [])))).2.2.2 (IntKind.wrap .i64 ((IntKind.wrap .i64 ((IntKind.wrap .i64 (v0_1 + (1 : Int))) + (1 : Int))) + (1 : Int)))) < (0 : Int))) (k (-1 : Int)) (L0 v0_0 (f1 (List.getD v0_0 (Int.toNat v0_2) (ByteArray.empty, ((0 : Int), ((0 : Int), [])))).2.2.2 (IntKind.wrap .i64 ((IntKind.wrap .i64 ((IntKind.wrap .i64 (v0_1 + (1 : Int))) + (1 : Int))) + (1 : Int)))) (IntKind.wrap .i64 (v0_2 + (1 : Int))))) none)) none)) none)) none) (k v0_1))
def laws_heldEntryS_P {ρ : Type} (f0 : Int → ByteArray) (f1 : (List ByteArray) → Int → Int) (k : Int → Option ρ) (L0 : (List TEntry) → Int → Int → Option ρ) (a0 : (List TEntry)) (a1 : Int) : Option ρ := (L0 a0 a1 (0 : Int))
def laws_heldEntryS_L0 {ρ : Type} (k : Int → Option ρ) (L0 : (List TEntry) → Int → Int → Option ρ) (v0_0 : (List TEntry)) (v0_1 : Int) (v0_2 : Int) : Option ρ := laws_heldEntryS_P_L0 N.laws_markText N.laws_heldStringS k L0 v0_0 v0_1 v0_2
def laws_heldEntryS {ρ : Type} (k : Int → Option ρ) (L0 : (List TEntry) → Int → Int → Option ρ) (a0 : (List TEntry)) (a1 : Int) : Option ρ := laws_heldEntryS_P N.laws_markText N.laws_heldStringS k L0 a0 a1
theorem laws_heldEntryS_ok {ρ : Type} (k : Int → Option ρ) (a0 : (List TEntry)) (a1 : Int) (l_a0 : lnL (fun y => (True ∧ (True ∧ (True ∧ lnL (fun _ => True) y.2.2.2)))) a0) : ∃ n0, ∀ n, n0 ≤ n → ∀ (L0 : Nat → (List TEntry) → Int → Int → Option ρ) (h0 : ∀ ( m : Nat) (v0_0 : (List TEntry)) (v0_1 : Int) (v0_2 : Int), L0 (m + 1) v0_0 v0_1 v0_2 = laws_heldEntryS_L0 k (L0 m) v0_0 v0_1 v0_2), laws_heldEntryS k (L0 n) a0 a1 = k (N.laws_heldEntryS a0 a1) := by
  refine ⟨a0.length + 1, fun n hn L0 h0 => ?_⟩
  refine raw_heldL (f := hE) (H := heldE) (fun _ => rfl) (fun _ _ _ => rfl) (K := k) (L := fun m k i => L0 m a0 k i) (ByteArray.empty, (0, (0, []))) (fun m k' j G hj hG => ?_) (fun m k' => ?_) hn
  · have hb : j < big := by have := l_a0.1; omega
    show L0 (m + 1) a0 k' (j : Int) = _
    rw [h0]
    simp only [laws_heldEntryS_L0, laws_heldEntryS_P_L0, lt_nat, inRange_nat, decide_eq_true hj, wrap_succ hb, cond_true, bne, Int.toNat_natCast, hG, hE, thenH, eqStr, s1]
    cases (ByteArray.toList (a0.getD j (ByteArray.empty, (0, (0, [])))).1 == ByteArray.toList (markTextM k')) <;> cases ((a0.getD j (ByteArray.empty, (0, (0, [])))).2.1 == IntKind.wrap .i64 (k' + 1)) <;> cases ((a0.getD j (ByteArray.empty, (0, (0, [])))).2.2.1 == IntKind.wrap .i64 (IntKind.wrap .i64 (k' + 1) + 1)) <;> simp [k_cond]
  · show L0 (m + 1) a0 k' (a0.length : Int) = _
    rw [h0]
    simp [laws_heldEntryS_L0, laws_heldEntryS_P_L0]
def OP_laws_heldEntryS (f0 : Int → ByteArray) (f1 : (List ByteArray) → Int → Int) : Orac := (orcX 84 [.val (.slice 9 .str), .val (.int .i64)] (fun d => true) (fun d => [⟨(.int .i64), f1 d.1 d.2.1⟩]) (orcX 63 [.val (.int .i64)] (fun d => true) (fun d => [⟨.str, f0 d.1⟩]) nilO))
def O_laws_heldEntryS : Orac := OP_laws_heldEntryS N.laws_markText N.laws_heldStringS
theorem ok_laws_heldEntryS : OracOk Try.prog sigs O_laws_heldEntryS := (orcX_ok rfl rfl (fun d g => said_laws_heldStringS d.1 d.2.1) (orcX_ok rfl rfl (fun d g => said_laws_markText d.1) nilO_ok))
def A_laws_heldEntryS : Ann := fun b => cond (Nat.beq b 0) ⟨[(0, false), (1, false), (5, false)], []⟩ (⟨[], []⟩)
def S_laws_heldEntryS_0 (v0_0 : (List TEntry)) (v0_1 : Int) (v0_2 : Int) : St := [(kT 0, some (.tv (.v (.slice 31 TyEntry) v0_0 .no))), (kT 1, some (.tv (.v (.int .i64) v0_1 .no))), (kT 5, some (.tv (.v (.int .i64) v0_2 .no)))]
noncomputable def L_P_laws_heldEntryS_0 (f0 : Int → ByteArray) (f1 : (List ByteArray) → Int → Int) (n m : Nat) : St → Option Ret := loopOf tab sigs (OP_laws_heldEntryS f0 f1) A_laws_heldEntryS Try.f38 [((.int .i64), .no)] n (fun _ => 0) 0 m
theorem bP_laws_heldEntryS_0 (f0 : Int → ByteArray) (f1 : (List ByteArray) → Int → Int) (n m : Nat) (v0_0 : (List TEntry)) (v0_1 : Int) (v0_2 : Int) : L_P_laws_heldEntryS_0 f0 f1 n (m + 1) (S_laws_heldEntryS_0 v0_0 v0_1 v0_2) = laws_heldEntryS_P_L0 f0 f1 (fun r0 => some [⟨(.int .i64), r0⟩]) (fun v0_0 v0_1 v0_2 => L_P_laws_heldEntryS_0 f0 f1 n m (S_laws_heldEntryS_0 v0_0 v0_1 v0_2)) v0_0 v0_1 v0_2 := by kernel_rfl
theorem aP_laws_heldEntryS (f0 : Int → ByteArray) (f1 : (List ByteArray) → Int → Int) (n : Nat) (a0 : (List TEntry)) (a1 : Int) : absF tab sigs (OP_laws_heldEntryS f0 f1) A_laws_heldEntryS Try.f38 [((.int .i64), .no)] n [.val (.slice 31 TyEntry) a0, .val (.int .i64) a1] = laws_heldEntryS_P f0 f1 (fun r0 => some [⟨(.int .i64), r0⟩]) (fun v0_0 v0_1 v0_2 => L_P_laws_heldEntryS_0 f0 f1 n n (S_laws_heldEntryS_0 v0_0 v0_1 v0_2)) a0 a1 := by kernel_rfl
theorem said_laws_heldEntryS (a0 : (List TEntry)) (a1 : Int) : Said Try.prog sigs_38 38 [.val (.slice 31 TyEntry) a0, .val (.int .i64) a1] [⟨(.int .i64), N.laws_heldEntryS a0 a1⟩] := said_len (T := tab) (A := A_laws_heldEntryS) tabOk ok_laws_heldEntryS tabOk.follows Try.func38 (by kernel_rfl) (by kernel_rfl) (fun hl => let ⟨n, hn⟩ := laws_heldEntryS_ok (ρ := Ret) (fun r0 => some [⟨(.int .i64), r0⟩]) a0 a1 hl.1; ⟨n, (aP_laws_heldEntryS N.laws_markText N.laws_heldStringS n a0 a1).trans (hn n (Nat.le_refl n) (fun  m v0_0 v0_1 v0_2 => L_P_laws_heldEntryS_0 N.laws_markText N.laws_heldStringS n  m (S_laws_heldEntryS_0 v0_0 v0_1 v0_2)) (fun  m v0_0 v0_1 v0_2 => bP_laws_heldEntryS_0 N.laws_markText N.laws_heldStringS n  m v0_0 v0_1 v0_2))⟩)
end Go.Proofs.Ythegggkfngnehaa.Ref
