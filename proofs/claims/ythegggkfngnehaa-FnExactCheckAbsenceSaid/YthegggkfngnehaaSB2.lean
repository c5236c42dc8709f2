/- Functions of the program: what each computes, and that it does so.
   Conditions: as each theorem states. -/
import Derived.Test.YthegggkfngnehaaSB1
import Derived.WalkKit
import Derived.Lib.Bytealg
set_option linter.unusedVariables false
set_option linter.unusedSimpArgs false
set_option maxRecDepth 100000
namespace Go.Proofs.Ythegggkfngnehaa.Ref
open Go.RowKit Go.Proofs.YthegggkfngnehaaW.PrintWords Go.Proofs.YthegggkfngnehaaW.PrintLast
/-! laws.eqStringS -/
abbrev N.laws_eqStringS (a b : List ByteArray) : Bool := eqStrs a b
def laws_eqStringS_L0 {ρ : Type} (k : Bool → Option ρ) (L0 : (List ByteArray) → (List ByteArray) → Int → Option ρ) (v0_0 : (List ByteArray)) (v0_1 : (List ByteArray)) (v0_2 : Int) : Option ρ := (cond (decide (v0_2 < (List.length v0_0 : Int))) (cond (inRange v0_2 (List.length v0_0)) (cond (inRange v0_2 (List.length v0_1)) (cond (!((ByteArray.toList (List.getD v0_0 (Int.toNat v0_2) ByteArray.empty)) == (ByteArray.toList (List.getD v0_1 (Int.toNat v0_2) ByteArray.empty)))) (k false) (L0 v0_0 v0_1 (IntKind.wrap .i64 (v0_2 + (1 : Int))))) none) none) (k true))
def laws_eqStringS {ρ : Type} (k : Bool → Option ρ) (L0 : (List ByteArray) → (List ByteArray) → Int → Option ρ) (a0 : (List ByteArray)) (a1 : (List ByteArray)) : Option ρ := (cond ((List.length a0 : Int) != (List.length a1 : Int)) (k false) (L0 a0 a1 (0 : Int)))
theorem laws_eqStringS_ok {ρ : Type} (k : Bool → Option ρ) (a0 : (List ByteArray)) (a1 : (List ByteArray)) (l_a0 : lnL (fun _ => True) a0) (l_a1 : lnL (fun _ => True) a1) : ∃ n0, ∀ n, n0 ≤ n → ∀ (L0 : Nat → (List ByteArray) → (List ByteArray) → Int → Option ρ) (h0 : ∀ ( m : Nat) (v0_0 : (List ByteArray)) (v0_1 : (List ByteArray)) (v0_2 : Int), L0 (m + 1) v0_0 v0_1 v0_2 = laws_eqStringS_L0 k (L0 m) v0_0 v0_1 v0_2), laws_eqStringS k (L0 n) a0 a1 = k (N.laws_eqStringS a0 a1) := by
  exact ⟨a0.length + 1, fun n hn L0 h0 => eq_all (p := eqStr) (d := ByteArray.empty) l_a0.1 (L := fun m i => L0 m a0 a1 i) (fun m i => h0 m a0 a1 i) hn⟩
def O_laws_eqStringS : Orac := nilO
theorem ok_laws_eqStringS : OracOk Try.prog sigs O_laws_eqStringS := nilO_ok
def A_laws_eqStringS : Ann := fun b => cond (Nat.beq b 0) ⟨[(0, false), (1, false), (5, false)], []⟩ (⟨[], []⟩)
def S_laws_eqStringS_0 (v0_0 : (List ByteArray)) (v0_1 : (List ByteArray)) (v0_2 : Int) : St := [(kT 0, some (.tv (.v (.slice 9 .str) v0_0 .no))), (kT 1, some (.tv (.v (.slice 9 .str) v0_1 .no))), (kT 5, some (.tv (.v (.int .i64) v0_2 .no)))]
noncomputable def L_laws_eqStringS_0 (n m : Nat) : St → Option Ret := loopOf tab sigs O_laws_eqStringS A_laws_eqStringS Try.f51 [(.bool, .no)] n (fun _ => 0) 0 m
theorem b_laws_eqStringS_0 (n m : Nat) (v0_0 : (List ByteArray)) (v0_1 : (List ByteArray)) (v0_2 : Int) : L_laws_eqStringS_0 n (m + 1) (S_laws_eqStringS_0 v0_0 v0_1 v0_2) = laws_eqStringS_L0 (fun r0 => some [⟨.bool, r0⟩]) (fun v0_0 v0_1 v0_2 => L_laws_eqStringS_0 n m (S_laws_eqStringS_0 v0_0 v0_1 v0_2)) v0_0 v0_1 v0_2 := by kernel_rfl
theorem a_laws_eqStringS (n : Nat) (a0 : (List ByteArray)) (a1 : (List ByteArray)) : absF tab sigs O_laws_eqStringS A_laws_eqStringS Try.f51 [(.bool, .no)] n [.val (.slice 9 .str) a0, .val (.slice 9 .str) a1] = laws_eqStringS (fun r0 => some [⟨.bool, r0⟩]) (fun v0_0 v0_1 v0_2 => L_laws_eqStringS_0 n n (S_laws_eqStringS_0 v0_0 v0_1 v0_2)) a0 a1 := by kernel_rfl
theorem said_laws_eqStringS (a0 : (List ByteArray)) (a1 : (List ByteArray)) : Said Try.prog sigs_51 51 [.val (.slice 9 .str) a0, .val (.slice 9 .str) a1] [⟨.bool, N.laws_eqStringS a0 a1⟩] := said_len (T := tab) (A := A_laws_eqStringS) tabOk ok_laws_eqStringS tabOk.follows Try.func51 (by kernel_rfl) (by kernel_rfl) (fun hl => let ⟨n, hn⟩ := laws_eqStringS_ok (ρ := Ret) (fun r0 => some [⟨.bool, r0⟩]) a0 a1 hl.1 hl.2.1; ⟨n, (a_laws_eqStringS n a0 a1).trans (hn n (Nat.le_refl n) (fun  m v0_0 v0_1 v0_2 => L_laws_eqStringS_0 n  m (S_laws_eqStringS_0 v0_0 v0_1 v0_2)) (fun  m v0_0 v0_1 v0_2 => b_laws_eqStringS_0 n  m v0_0 v0_1 v0_2))⟩)
/-! laws.eqEntry -/
abbrev N.laws_eqEntry (a b : TEntry) : Bool := eqEntry a b
def laws_eqEntry {ρ : Type} (k : Bool → Option ρ) (a0 : TEntry) (a1 : TEntry) : Option ρ := (cond (!((ByteArray.toList a0.1) == (ByteArray.toList a1.1))) (k false) (cond (a0.2.1 != a1.2.1) (k false) (cond (a0.2.2.1 != a1.2.2.1) (k false) (cond (!(N.laws_eqStringS a0.2.2.2 a1.2.2.2)) (k false) (k true)))))
theorem laws_eqEntry_ok {ρ : Type} (k : Bool → Option ρ) (a0 : TEntry) (a1 : TEntry) (l_a0 : (True ∧ (True ∧ (True ∧ lnL (fun _ => True) a0.2.2.2)))) (l_a1 : (True ∧ (True ∧ (True ∧ lnL (fun _ => True) a1.2.2.2)))) : laws_eqEntry k  a0 a1 = k (N.laws_eqEntry a0 a1) := by
  simp only [laws_eqEntry, N.laws_eqEntry, N.laws_eqStringS, eqEntry, eqStr, bne]
  cases a0.1.toList == a1.1.toList
  · rfl
  cases a0.2.1 == a1.2.1
  · rfl
  cases a0.2.2.1 == a1.2.2.1
  · rfl
  cases eqStrs a0.2.2.2 a1.2.2.2 <;> rfl
def OP_laws_eqEntry (f_laws_eqStringS : (List ByteArray) → (List ByteArray) → Bool) : Orac := (orcX 51 [.val (.slice 9 .str), .val (.slice 9 .str)] (fun d => true) (fun d => [⟨.bool, f_laws_eqStringS d.1 d.2.1⟩]) nilO)
def O_laws_eqEntry : Orac := OP_laws_eqEntry N.laws_eqStringS
def laws_eqEntry_P {ρ : Type} (f_laws_eqStringS : (List ByteArray) → (List ByteArray) → Bool) (k : Bool → Option ρ) (a0 : TEntry) (a1 : TEntry) : Option ρ := (cond (!((ByteArray.toList a0.1) == (ByteArray.toList a1.1))) (k false) (cond (a0.2.1 != a1.2.1) (k false) (cond (a0.2.2.1 != a1.2.2.1) (k false) (cond (!(f_laws_eqStringS a0.2.2.2 a1.2.2.2)) (k false) (k true)))))
theorem ok_laws_eqEntry : OracOk Try.prog sigs O_laws_eqEntry := (orcX_ok rfl (fun d g => said_laws_eqStringS d.1 d.2.1) nilO_ok)
def A_laws_eqEntry : Ann := fun b => ⟨[], []⟩
theorem aP_laws_eqEntry (f_laws_eqStringS : (List ByteArray) → (List ByteArray) → Bool) (n : Nat) (a0 : TEntry) (a1 : TEntry) : absF tab sigs (OP_laws_eqEntry f_laws_eqStringS) A_laws_eqEntry Try.f15 [(.bool, .no)] n [.val (.pair .str (.pair (.int .i64) (.pair (.int .i64) (.slice 9 .str)))) a0, .val (.pair .str (.pair (.int .i64) (.pair (.int .i64) (.slice 9 .str)))) a1] = laws_eqEntry_P f_laws_eqStringS (fun r0 => some [⟨.bool, r0⟩])  a0 a1 := by kernel_rfl
theorem a_laws_eqEntry (n : Nat) (a0 : TEntry) (a1 : TEntry) : absF tab sigs O_laws_eqEntry A_laws_eqEntry Try.f15 [(.bool, .no)] n [.val (.pair .str (.pair (.int .i64) (.pair (.int .i64) (.slice 9 .str)))) a0, .val (.pair .str (.pair (.int .i64) (.pair (.int .i64) (.slice 9 .str)))) a1] = laws_eqEntry (fun r0 => some [⟨.bool, r0⟩])  a0 a1 := aP_laws_eqEntry N.laws_eqStringS n a0 a1
theorem said_laws_eqEntry (a0 : TEntry) (a1 : TEntry) : Said Try.prog sigs_15 15 [.val (.pair .str (.pair (.int .i64) (.pair (.int .i64) (.slice 9 .str)))) a0, .val (.pair .str (.pair (.int .i64) (.pair (.int .i64) (.slice 9 .str)))) a1] [⟨.bool, N.laws_eqEntry a0 a1⟩] := said_len (T := tab) (A := A_laws_eqEntry) tabOk ok_laws_eqEntry tabOk.follows Try.func15 (by kernel_rfl) (by kernel_rfl) (fun hl => ⟨0, (a_laws_eqEntry 0 a0 a1).trans (laws_eqEntry_ok (ρ := Ret) (fun r0 => some [⟨.bool, r0⟩]) a0 a1 hl.1 hl.2.1)⟩)
/-! laws.eqIntS -/
abbrev N.laws_eqIntS (a b : List Int) : Bool := eqInts a b
def laws_eqIntS_L0 {ρ : Type} (k : Bool → Option ρ) (L0 : (List Int) → (List Int) → Int → Option ρ) (v0_0 : (List Int)) (v0_1 : (List Int)) (v0_2 : Int) : Option ρ := (cond (decide (v0_2 < (List.length v0_0 : Int))) (cond (inRange v0_2 (List.length v0_0)) (cond (inRange v0_2 (List.length v0_1)) (cond ((List.getD v0_0 (Int.toNat v0_2) (0 : Int)) != (List.getD v0_1 (Int.toNat v0_2) (0 : Int))) (k false) (L0 v0_0 v0_1 (IntKind.wrap .i64 (v0_2 + (1 : Int))))) none) none) (k true))
def laws_eqIntS {ρ : Type} (k : Bool → Option ρ) (L0 : (List Int) → (List Int) → Int → Option ρ) (a0 : (List Int)) (a1 : (List Int)) : Option ρ := (cond ((List.length a0 : Int) != (List.length a1 : Int)) (k false) (L0 a0 a1 (0 : Int)))
theorem laws_eqIntS_ok {ρ : Type} (k : Bool → Option ρ) (a0 : (List Int)) (a1 : (List Int)) (l_a0 : lnL (fun _ => True) a0) (l_a1 : lnL (fun _ => True) a1) : ∃ n0, ∀ n, n0 ≤ n → ∀ (L0 : Nat → (List Int) → (List Int) → Int → Option ρ) (h0 : ∀ ( m : Nat) (v0_0 : (List Int)) (v0_1 : (List Int)) (v0_2 : Int), L0 (m + 1) v0_0 v0_1 v0_2 = laws_eqIntS_L0 k (L0 m) v0_0 v0_1 v0_2), laws_eqIntS k (L0 n) a0 a1 = k (N.laws_eqIntS a0 a1) := by
  exact ⟨a0.length + 1, fun n hn L0 h0 => eq_all (p := fun x y => x == y) (d := 0) l_a0.1 (L := fun m i => L0 m a0 a1 i) (fun m i => h0 m a0 a1 i) hn⟩
def O_laws_eqIntS : Orac := nilO
theorem ok_laws_eqIntS : OracOk Try.prog sigs O_laws_eqIntS := nilO_ok
def A_laws_eqIntS : Ann := fun b => cond (Nat.beq b 0) ⟨[(0, false), (1, false), (5, false)], []⟩ (⟨[], []⟩)
def S_laws_eqIntS_0 (v0_0 : (List Int)) (v0_1 : (List Int)) (v0_2 : Int) : St := [(kT 0, some (.tv (.v (.slice 3 (.int .i64)) v0_0 .no))), (kT 1, some (.tv (.v (.slice 3 (.int .i64)) v0_1 .no))), (kT 5, some (.tv (.v (.int .i64) v0_2 .no)))]
noncomputable def L_laws_eqIntS_0 (n m : Nat) : St → Option Ret := loopOf tab sigs O_laws_eqIntS A_laws_eqIntS Try.f52 [(.bool, .no)] n (fun _ => 0) 0 m
theorem b_laws_eqIntS_0 (n m : Nat) (v0_0 : (List Int)) (v0_1 : (List Int)) (v0_2 : Int) : L_laws_eqIntS_0 n (m + 1) (S_laws_eqIntS_0 v0_0 v0_1 v0_2) = laws_eqIntS_L0 (fun r0 => some [⟨.bool, r0⟩]) (fun v0_0 v0_1 v0_2 => L_laws_eqIntS_0 n m (S_laws_eqIntS_0 v0_0 v0_1 v0_2)) v0_0 v0_1 v0_2 := by kernel_rfl
theorem a_laws_eqIntS (n : Nat) (a0 : (List Int)) (a1 : (List Int)) : absF tab sigs O_laws_eqIntS A_laws_eqIntS Try.f52 [(.bool, .no)] n [.val (.slice 3 (.int .i64)) a0, .val (.slice 3 (.int .i64)) a1] = laws_eqIntS (fun r0 => some [⟨.bool, r0⟩]) (fun v0_0 v0_1 v0_2 => L_laws_eqIntS_0 n n (S_laws_eqIntS_0 v0_0 v0_1 v0_2)) a0 a1 := by kernel_rfl
theorem said_laws_eqIntS (a0 : (List Int)) (a1 : (List Int)) : Said Try.prog sigs_52 52 [.val (.slice 3 (.int .i64)) a0, .val (.slice 3 (.int .i64)) a1] [⟨.bool, N.laws_eqIntS a0 a1⟩] := said_len (T := tab) (A := A_laws_eqIntS) tabOk ok_laws_eqIntS tabOk.follows Try.func52 (by kernel_rfl) (by kernel_rfl) (fun hl => let ⟨n, hn⟩ := laws_eqIntS_ok (ρ := Ret) (fun r0 => some [⟨.bool, r0⟩]) a0 a1 hl.1 hl.2.1; ⟨n, (a_laws_eqIntS n a0 a1).trans (hn n (Nat.le_refl n) (fun  m v0_0 v0_1 v0_2 => L_laws_eqIntS_0 n  m (S_laws_eqIntS_0 v0_0 v0_1 v0_2)) (fun  m v0_0 v0_1 v0_2 => b_laws_eqIntS_0 n  m v0_0 v0_1 v0_2))⟩)
/-! laws.eqProof -/
abbrev N.laws_eqProof (a b : TProof) : Bool := eqProof a b
def laws_eqProof {ρ : Type} (k : Bool → Option ρ) (a0 : TProof) (a1 : TProof) : Option ρ := (cond (a0.1 != a1.1) (k false) (cond (!(N.laws_eqIntS a0.2 a1.2)) (k false) (k true)))
theorem laws_eqProof_ok {ρ : Type} (k : Bool → Option ρ) (a0 : TProof) (a1 : TProof) (l_a0 : (True ∧ lnL (fun _ => True) a0.2)) (l_a1 : (True ∧ lnL (fun _ => True) a1.2)) : laws_eqProof k  a0 a1 = k (N.laws_eqProof a0 a1) := by
  simp only [laws_eqProof, N.laws_eqProof, N.laws_eqIntS, eqProof, bne]
  cases eqInts a0.2 a1.2 <;> cases a0.1 == a1.1 <;> rfl
def OP_laws_eqProof (f_laws_eqIntS : (List Int) → (List Int) → Bool) : Orac := (orcX 52 [.val (.slice 3 (.int .i64)), .val (.slice 3 (.int .i64))] (fun d => true) (fun d => [⟨.bool, f_laws_eqIntS d.1 d.2.1⟩]) nilO)
def O_laws_eqProof : Orac := OP_laws_eqProof N.laws_eqIntS
def laws_eqProof_P {ρ : Type} (f_laws_eqIntS : (List Int) → (List Int) → Bool) (k : Bool → Option ρ) (a0 : TProof) (a1 : TProof) : Option ρ := (cond (a0.1 != a1.1) (k false) (cond (!(f_laws_eqIntS a0.2 a1.2)) (k false) (k true)))
theorem ok_laws_eqProof : OracOk Try.prog sigs O_laws_eqProof := (orcX_ok rfl (fun d g => said_laws_eqIntS d.1 d.2.1) nilO_ok)
def A_laws_eqProof : Ann := fun b => ⟨[], []⟩
theorem aP_laws_eqProof (f_laws_eqIntS : (List Int) → (List Int) → Bool) (n : Nat) (a0 : TProof) (a1 : TProof) : absF tab sigs (OP_laws_eqProof f_laws_eqIntS) A_laws_eqProof Try.f16 [(.bool, .no)] n [.val (.pair (.int .i64) (.slice 3 (.int .i64))) a0, .val (.pair (.int .i64) (.slice 3 (.int .i64))) a1] = laws_eqProof_P f_laws_eqIntS (fun r0 => some [⟨.bool, r0⟩])  a0 a1 := by kernel_rfl
theorem a_laws_eqProof (n : Nat) (a0 : TProof) (a1 : TProof) : absF tab sigs O_laws_eqProof A_laws_eqProof Try.f16 [(.bool, .no)] n [.val (.pair (.int .i64) (.slice 3 (.int .i64))) a0, .val (.pair (.int .i64) (.slice 3 (.int .i64))) a1] = laws_eqProof (fun r0 => some [⟨.bool, r0⟩])  a0 a1 := aP_laws_eqProof N.laws_eqIntS n a0 a1
theorem said_laws_eqProof (a0 : TProof) (a1 : TProof) : Said Try.prog sigs_16 16 [.val (.pair (.int .i64) (.slice 3 (.int .i64))) a0, .val (.pair (.int .i64) (.slice 3 (.int .i64))) a1] [⟨.bool, N.laws_eqProof a0 a1⟩] := said_len (T := tab) (A := A_laws_eqProof) tabOk ok_laws_eqProof tabOk.follows Try.func16 (by kernel_rfl) (by kernel_rfl) (fun hl => ⟨0, (a_laws_eqProof 0 a0 a1).trans (laws_eqProof_ok (ρ := Ret) (fun r0 => some [⟨.bool, r0⟩]) a0 a1 hl.1 hl.2.1)⟩)
/-! laws.szEntryS -/
abbrev G.laws_szEntryS (a : List TEntry) (left : Int) : Bool := gL left && a.all bE
abbrev N.laws_szEntryS (a : List TEntry) (left : Int) : Int := sub1 (wEs a) left
def laws_szEntryS_L0 {ρ : Type} (k : Int → Option ρ) (L0 : (List TEntry) → Int → Int → Option ρ) (v0_0 : (List TEntry)) (v0_1 : Int) (v0_2 : Int) : Option ρ := (cond (decide (v0_2 < (List.length v0_0 : Int))) (cond (inRange v0_2 (List.length v0_0)) (cond (G.laws_szEntry (List.getD v0_0 (Int.toNat v0_2) (ByteArray.empty, ((0 : Int), ((0 : Int), [])))) v0_1) (cond (decide ((N.laws_szEntry (List.getD v0_0 (Int.toNat v0_2) (ByteArray.empty, ((0 : Int), ((0 : Int), [])))) v0_1) < (0 : Int))) (k (-1 : Int)) (L0 v0_0 (N.laws_szEntry (List.getD v0_0 (Int.toNat v0_2) (ByteArray.empty, ((0 : Int), ((0 : Int), [])))) v0_1) (IntKind.wrap .i64 (v0_2 + (1 : Int))))) none) none) (k v0_1))
def laws_szEntryS {ρ : Type} (k : Int → Option ρ) (L0 : (List TEntry) → Int → Int → Option ρ) (a0 : (List TEntry)) (a1 : Int) : Option ρ := (cond (decide ((IntKind.wrap .i64 (a1 - (List.length a0 : Int))) < (0 : Int))) (k (-1 : Int)) (L0 a0 (IntKind.wrap .i64 (a1 - (List.length a0 : Int))) (0 : Int)))
theorem laws_szEntryS_ok {ρ : Type} (k : Int → Option ρ) (a0 : (List TEntry)) (a1 : Int) (l_a0 : lnL (fun y => (True ∧ (True ∧ (True ∧ lnL (fun _ => True) y.2.2.2)))) a0) (g : G.laws_szEntryS a0 a1 = true) : ∃ n0, ∀ n, n0 ≤ n → ∀ (L0 : Nat → (List TEntry) → Int → Int → Option ρ) (h0 : ∀ ( m : Nat) (v0_0 : (List TEntry)) (v0_1 : Int) (v0_2 : Int), L0 (m + 1) v0_0 v0_1 v0_2 = laws_szEntryS_L0 k (L0 m) v0_0 v0_1 v0_2), laws_szEntryS k (L0 n) a0 a1 = k (N.laws_szEntryS a0 a1) := by
  unfold G.laws_szEntryS at g
  replace g := (Bool.and_eq_true _ _).mp g
  refine ⟨a0.length + 1, fun n hn L0 h0 => ?_⟩
  refine sz_first (c := fun l => L0 n a0 l 0) g.1 l_a0.1 (fun g' => ?_)
  have g'' : 0 ≤ sub1 a0.length a1 ∧ sub1 a0.length a1 ≤ 1048576 := by simpa only [gL, Bool.and_eq_true, decide_eq_true_eq] using g'
  refine (loop_l (a := a0) (d := (ByteArray.empty, ((0 : Int), ((0 : Int), [])))) l_a0.1 (L := fun m i s => L0 m a0 s i) (f := fun i x s c => cond (gL s && bE x) (cond (decide (sub1 (wE x) s < 0)) (k (-1)) (c (sub1 (wE x) s))) none) (e := k) (fun m i s => h0 m a0 s i) hn).trans ?_
  refine foldI_sz (fun x => bE x = true) (fun i x s c hx hs0 hs1 => ?_) (fun s => rfl) a0 0 _ (fun x hx => List.all_eq_true.1 g.2 x hx) g''.1 g''.2
  have e1 : gL s = true := by simp [gL, hs0, hs1]
  rw [e1, hx]
  show cond (decide (sub1 (wE x) s < 0)) _ _ = _
  by_cases h : s < (wE x : Int)
  · have h2 := (sub1_neg (w := wE x) hs0).2 h
    simp [h, h2]
  · have h2 : ¬ sub1 (wE x) s < 0 := fun h3 => h ((sub1_neg hs0).1 h3)
    rw [decide_eq_false h2, decide_eq_false h, sub1_pos (w := wE x) (left := s) (by omega)]
def OP_laws_szEntryS (f_laws_szEntry : TEntry → Int → Int) (g_laws_szEntry : TEntry → Int → Bool) : Orac := (orcX 9 [.val (.pair .str (.pair (.int .i64) (.pair (.int .i64) (.slice 9 .str)))), .val (.int .i64)] (fun d => g_laws_szEntry d.1 d.2.1) (fun d => [⟨(.int .i64), f_laws_szEntry d.1 d.2.1⟩]) nilO)
def O_laws_szEntryS : Orac := OP_laws_szEntryS N.laws_szEntry G.laws_szEntry
def laws_szEntryS_P_L0 {ρ : Type} (f_laws_szEntry : TEntry → Int → Int) (g_laws_szEntry : TEntry → Int → Bool) (k : Int → Option ρ) (L0 : (List TEntry) → Int → Int → Option ρ) (v0_0 : (List TEntry)) (v0_1 : Int) (v0_2 : Int) : Option ρ := (cond (decide (v0_2 < (List.length v0_0 : Int))) (cond (inRange v0_2 (List.length v0_0)) (cond (g_laws_szEntry (List.getD v0_0 (Int.toNat v0_2) (ByteArray.empty, ((0 : Int), ((0 : Int), [])))) v0_1) (cond (decide ((f_laws_szEntry (List.getD v0_0 (Int.toNat v0_2) (ByteArray.empty, ((0 : Int), ((0 : Int), [])))) v0_1) < (0 : Int))) (k (-1 : Int)) (L0 v0_0 (f_laws_szEntry (List.getD v0_0 (Int.toNat v0_2) (ByteArray.empty, ((0 : Int), ((0 : Int), [])))) v0_1) (IntKind.wrap .i64 (v0_2 + (1 : Int))))) none) none) (k v0_1))
def laws_szEntryS_P {ρ : Type} (f_laws_szEntry : TEntry → Int → Int) (g_laws_szEntry : TEntry → Int → Bool) (k : Int → Option ρ) (L0 : (List TEntry) → Int → Int → Option ρ) (a0 : (List TEntry)) (a1 : Int) : Option ρ := (cond (decide ((IntKind.wrap .i64 (a1 - (List.length a0 : Int))) < (0 : Int))) (k (-1 : Int)) (L0 a0 (IntKind.wrap .i64 (a1 - (List.length a0 : Int))) (0 : Int)))
theorem ok_laws_szEntryS : OracOk Try.prog sigs O_laws_szEntryS := (orcX_ok rfl (fun d g => said_laws_szEntry d.1 d.2.1 g) nilO_ok)
def A_laws_szEntryS : Ann := fun b => cond (Nat.beq b 0) ⟨[(0, false), (1, false), (5, false)], []⟩ (⟨[], []⟩)
def S_laws_szEntryS_0 (v0_0 : (List TEntry)) (v0_1 : Int) (v0_2 : Int) : St := [(kT 0, some (.tv (.v (.slice 24 (.pair .str (.pair (.int .i64) (.pair (.int .i64) (.slice 9 .str))))) v0_0 .no))), (kT 1, some (.tv (.v (.int .i64) v0_1 .no))), (kT 5, some (.tv (.v (.int .i64) v0_2 .no)))]
noncomputable def L_P_laws_szEntryS_0 (f_laws_szEntry : TEntry → Int → Int) (g_laws_szEntry : TEntry → Int → Bool) (n m : Nat) : St → Option Ret := loopOf tab sigs (OP_laws_szEntryS f_laws_szEntry g_laws_szEntry) A_laws_szEntryS Try.f17 [((.int .i64), .no)] n (fun _ => 0) 0 m
noncomputable def L_laws_szEntryS_0 (n m : Nat) : St → Option Ret := L_P_laws_szEntryS_0 N.laws_szEntry G.laws_szEntry n m
theorem bP_laws_szEntryS_0 (f_laws_szEntry : TEntry → Int → Int) (g_laws_szEntry : TEntry → Int → Bool) (n m : Nat) (v0_0 : (List TEntry)) (v0_1 : Int) (v0_2 : Int) : L_P_laws_szEntryS_0 f_laws_szEntry g_laws_szEntry n (m + 1) (S_laws_szEntryS_0 v0_0 v0_1 v0_2) = laws_szEntryS_P_L0 f_laws_szEntry g_laws_szEntry (fun r0 => some [⟨(.int .i64), r0⟩]) (fun v0_0 v0_1 v0_2 => L_P_laws_szEntryS_0 f_laws_szEntry g_laws_szEntry n m (S_laws_szEntryS_0 v0_0 v0_1 v0_2)) v0_0 v0_1 v0_2 := by kernel_rfl
theorem b_laws_szEntryS_0 (n m : Nat) (v0_0 : (List TEntry)) (v0_1 : Int) (v0_2 : Int) : L_laws_szEntryS_0 n (m + 1) (S_laws_szEntryS_0 v0_0 v0_1 v0_2) = laws_szEntryS_L0 (fun r0 => some [⟨(.int .i64), r0⟩]) (fun v0_0 v0_1 v0_2 => L_laws_szEntryS_0 n m (S_laws_szEntryS_0 v0_0 v0_1 v0_2)) v0_0 v0_1 v0_2 := bP_laws_szEntryS_0 N.laws_szEntry G.laws_szEntry n m v0_0 v0_1 v0_2
theorem aP_laws_szEntryS (f_laws_szEntry : TEntry → Int → Int) (g_laws_szEntry : TEntry → Int → Bool) (n : Nat) (a0 : (List TEntry)) (a1 : Int) : absF tab sigs (OP_laws_szEntryS f_laws_szEntry g_laws_szEntry) A_laws_szEntryS Try.f17 [((.int .i64), .no)] n [.val (.slice 24 (.pair .str (.pair (.int .i64) (.pair (.int .i64) (.slice 9 .str))))) a0, .val (.int .i64) a1] = laws_szEntryS_P f_laws_szEntry g_laws_szEntry (fun r0 => some [⟨(.int .i64), r0⟩]) (fun v0_0 v0_1 v0_2 => L_P_laws_szEntryS_0 f_laws_szEntry g_laws_szEntry n n (S_laws_szEntryS_0 v0_0 v0_1 v0_2)) a0 a1 := by kernel_rfl
theorem a_laws_szEntryS (n : Nat) (a0 : (List TEntry)) (a1 : Int) : absF tab sigs O_laws_szEntryS A_laws_szEntryS Try.f17 [((.int .i64), .no)] n [.val (.slice 24 (.pair .str (.pair (.int .i64) (.pair (.int .i64) (.slice 9 .str))))) a0, .val (.int .i64) a1] = laws_szEntryS (fun r0 => some [⟨(.int .i64), r0⟩]) (fun v0_0 v0_1 v0_2 => L_laws_szEntryS_0 n n (S_laws_szEntryS_0 v0_0 v0_1 v0_2)) a0 a1 := aP_laws_szEntryS N.laws_szEntry G.laws_szEntry n a0 a1
theorem said_laws_szEntryS (a0 : (List TEntry)) (a1 : Int) (g : G.laws_szEntryS a0 a1 = true) : Said Try.prog sigs_17 17 [.val (.slice 24 (.pair .str (.pair (.int .i64) (.pair (.int .i64) (.slice 9 .str))))) a0, .val (.int .i64) a1] [⟨(.int .i64), N.laws_szEntryS a0 a1⟩] := said_len (T := tab) (A := A_laws_szEntryS) tabOk ok_laws_szEntryS tabOk.follows Try.func17 (by kernel_rfl) (by kernel_rfl) (fun hl => let ⟨n, hn⟩ := laws_szEntryS_ok (ρ := Ret) (fun r0 => some [⟨(.int .i64), r0⟩]) a0 a1 hl.1 g; ⟨n, (a_laws_szEntryS n a0 a1).trans (hn n (Nat.le_refl n) (fun  m v0_0 v0_1 v0_2 => L_laws_szEntryS_0 n  m (S_laws_szEntryS_0 v0_0 v0_1 v0_2)) (fun  m v0_0 v0_1 v0_2 => b_laws_szEntryS_0 n  m v0_0 v0_1 v0_2))⟩)
/-! laws.toEntryS -/
abbrev G.laws_toEntryS (a : List TEntry) : Bool := decide (wEs a ≤ 1048576)
abbrev N.laws_toEntryS (a : List TEntry) : List TEntry := a
def laws_toEntryS_L0 {ρ : Type} (k : (List TEntry) → Option ρ) (L0 : (List TEntry) → Int → (List TEntry) → Option ρ) (v0_0 : (List TEntry)) (v0_1 : Int) (v0_2 : (List TEntry)) : Option ρ := (cond (decide (v0_1 < (List.length v0_0 : Int))) (cond (inRange v0_1 (List.length v0_0)) (cond (G.laws_toEntry (List.getD v0_0 (Int.toNat v0_1) (ByteArray.empty, ((0 : Int), ((0 : Int), []))))) (cond (inRange v0_1 (List.length v0_2)) (cond (inRange v0_1 (List.length v0_2)) (L0 v0_0 (IntKind.wrap .i64 (v0_1 + (1 : Int))) (List.set v0_2 (Int.toNat v0_1) (N.laws_toEntry (List.getD v0_0 (Int.toNat v0_1) (ByteArray.empty, ((0 : Int), ((0 : Int), []))))))) none) none) none) none) (k v0_2))
def laws_toEntryS {ρ : Type} (k : (List TEntry) → Option ρ) (L0 : (List TEntry) → Int → (List TEntry) → Option ρ) (a0 : (List TEntry)) : Option ρ := (cond (decide (0 ≤ (List.length a0 : Int)) && decide ((List.length a0 : Int) ≤ 1099511627776)) (L0 a0 (0 : Int) (List.replicate (Int.toNat (List.length a0 : Int)) (ByteArray.empty, ((0 : Int), ((0 : Int), []))))) none)
theorem laws_toEntryS_ok {ρ : Type} (k : (List TEntry) → Option ρ) (a0 : (List TEntry)) (l_a0 : lnL (fun y => (True ∧ (True ∧ (True ∧ lnL (fun _ => True) y.2.2.2)))) a0) (g : G.laws_toEntryS a0 = true) : ∃ n0, ∀ n, n0 ≤ n → ∀ (L0 : Nat → (List TEntry) → Int → (List TEntry) → Option ρ) (h0 : ∀ ( m : Nat) (v0_0 : (List TEntry)) (v0_1 : Int) (v0_2 : (List TEntry)), L0 (m + 1) v0_0 v0_1 v0_2 = laws_toEntryS_L0 k (L0 m) v0_0 v0_1 v0_2), laws_toEntryS k (L0 n) a0 = k (N.laws_toEntryS a0) := by
  unfold G.laws_toEntryS at g
  refine ⟨a0.length + 1, fun n hn L0 h0 => ?_⟩
  have g' : wEs a0 ≤ 1048576 := by simpa using g
  have hl : a0.length ≤ 1048576 := by unfold wEs at g'; omega
  have hg : (decide (0 ≤ (a0.length : Int)) && decide ((a0.length : Int) ≤ 1099511627776)) = true := by simp; omega
  show cond _ _ none = _
  rw [hg]
  refine (raw_copy (a := a0) (ByteArray.empty, (0, (0, []))) (ByteArray.empty, (0, (0, []))) (fun x => x) (k := k) (L := fun m i out => L0 m a0 i out) (R := fun i out c => laws_toEntryS_L0 k (fun _ i out => c i out) a0 i out) (fun m i s => h0 m a0 i s) (fun j out c hj hl => ?_) (fun s c => ?_) hn).trans (by simp)
  · have hw := wEs_mem (getD_mem (d := (ByteArray.empty, (0, (0, [])))) hj)
    have hw' : decide (wE (a0.getD j (ByteArray.empty, (0, (0, [])))) ≤ 1048576) = true := by simp only [decide_eq_true_eq]; omega
    simp only [laws_toEntryS_L0, G.laws_toEntry, lt_nat, inRange_nat, hj, hl, decide_true, cond_true, Int.toNat_natCast, hw', wrap_succ (j := j) (by unfold big; omega)]
  · simp [laws_toEntryS_L0]
def OP_laws_toEntryS (f_laws_toEntry : TEntry → TEntry) (g_laws_toEntry : TEntry → Bool) : Orac := (orcX 12 [.val (.pair .str (.pair (.int .i64) (.pair (.int .i64) (.slice 9 .str))))] (fun d => g_laws_toEntry d.1) (fun d => [⟨(.pair .str (.pair (.int .i64) (.pair (.int .i64) (.slice 9 .str)))), f_laws_toEntry d.1⟩]) nilO)
def O_laws_toEntryS : Orac := OP_laws_toEntryS N.laws_toEntry G.laws_toEntry
def laws_toEntryS_P_L0 {ρ : Type} (f_laws_toEntry : TEntry → TEntry) (g_laws_toEntry : TEntry → Bool) (k : (List TEntry) → Option ρ) (L0 : (List TEntry) → Int → (List TEntry) → Option ρ) (v0_0 : (List TEntry)) (v0_1 : Int) (v0_2 : (List TEntry)) : Option ρ := (cond (decide (v0_1 < (List.length v0_0 : Int))) (cond (inRange v0_1 (List.length v0_0)) (cond (g_laws_toEntry (List.getD v0_0 (Int.toNat v0_1) (ByteArray.empty, ((0 : Int), ((0 : Int), []))))) (cond (inRange v0_1 (List.length v0_2)) (cond (inRange v0_1 (List.length v0_2)) (L0 v0_0 (IntKind.wrap .i64 (v0_1 + (1 : Int))) (List.set v0_2 (Int.toNat v0_1) (f_laws_toEntry (List.getD v0_0 (Int.toNat v0_1) (ByteArray.empty, ((0 : Int), ((0 : Int), []))))))) none) none) none) none) (k v0_2))
def laws_toEntryS_P {ρ : Type} (f_laws_toEntry : TEntry → TEntry) (g_laws_toEntry : TEntry → Bool) (k : (List TEntry) → Option ρ) (L0 : (List TEntry) → Int → (List TEntry) → Option ρ) (a0 : (List TEntry)) : Option ρ := (cond (decide (0 ≤ (List.length a0 : Int)) && decide ((List.length a0 : Int) ≤ 1099511627776)) (L0 a0 (0 : Int) (List.replicate (Int.toNat (List.length a0 : Int)) (ByteArray.empty, ((0 : Int), ((0 : Int), []))))) none)
theorem ok_laws_toEntryS : OracOk Try.prog sigs O_laws_toEntryS := (orcX_ok rfl (fun d g => said_laws_toEntry d.1 g) nilO_ok)
def A_laws_toEntryS : Ann := fun b => cond (Nat.beq b 0) ⟨[(0, false), (3, true), (4, false)], []⟩ (⟨[], []⟩)
def S_laws_toEntryS_0 (v0_0 : (List TEntry)) (v0_1 : Int) (v0_2 : (List TEntry)) : St := [(kT 0, some (.tv (.v (.slice 24 (.pair .str (.pair (.int .i64) (.pair (.int .i64) (.slice 9 .str))))) v0_0 .no))), (kT 3, some (.tv (.v (.slice 31 (.pair .str (.pair (.int .i64) (.pair (.int .i64) (.slice 9 .str))))) [] (.own 24)))), (kT 4, some (.tv (.v (.int .i64) v0_1 .no))), (kR 24, some (.row 31 (.pair .str (.pair (.int .i64) (.pair (.int .i64) (.slice 9 .str)))) v0_2))]
noncomputable def L_P_laws_toEntryS_0 (f_laws_toEntry : TEntry → TEntry) (g_laws_toEntry : TEntry → Bool) (n m : Nat) : St → Option Ret := loopOf tab sigs (OP_laws_toEntryS f_laws_toEntry g_laws_toEntry) A_laws_toEntryS Try.f19 [((.slice 31 (.pair .str (.pair (.int .i64) (.pair (.int .i64) (.slice 9 .str))))), (.own 0))] n (fun _ => 0) 0 m
noncomputable def L_laws_toEntryS_0 (n m : Nat) : St → Option Ret := L_P_laws_toEntryS_0 N.laws_toEntry G.laws_toEntry n m
theorem bP_laws_toEntryS_0 (f_laws_toEntry : TEntry → TEntry) (g_laws_toEntry : TEntry → Bool) (n m : Nat) (v0_0 : (List TEntry)) (v0_1 : Int) (v0_2 : (List TEntry)) : L_P_laws_toEntryS_0 f_laws_toEntry g_laws_toEntry n (m + 1) (S_laws_toEntryS_0 v0_0 v0_1 v0_2) = laws_toEntryS_P_L0 f_laws_toEntry g_laws_toEntry (fun r0 => some [⟨(.slice 31 (.pair .str (.pair (.int .i64) (.pair (.int .i64) (.slice 9 .str))))), r0⟩]) (fun v0_0 v0_1 v0_2 => L_P_laws_toEntryS_0 f_laws_toEntry g_laws_toEntry n m (S_laws_toEntryS_0 v0_0 v0_1 v0_2)) v0_0 v0_1 v0_2 := by kernel_rfl
theorem b_laws_toEntryS_0 (n m : Nat) (v0_0 : (List TEntry)) (v0_1 : Int) (v0_2 : (List TEntry)) : L_laws_toEntryS_0 n (m + 1) (S_laws_toEntryS_0 v0_0 v0_1 v0_2) = laws_toEntryS_L0 (fun r0 => some [⟨(.slice 31 (.pair .str (.pair (.int .i64) (.pair (.int .i64) (.slice 9 .str))))), r0⟩]) (fun v0_0 v0_1 v0_2 => L_laws_toEntryS_0 n m (S_laws_toEntryS_0 v0_0 v0_1 v0_2)) v0_0 v0_1 v0_2 := bP_laws_toEntryS_0 N.laws_toEntry G.laws_toEntry n m v0_0 v0_1 v0_2
theorem aP_laws_toEntryS (f_laws_toEntry : TEntry → TEntry) (g_laws_toEntry : TEntry → Bool) (n : Nat) (a0 : (List TEntry)) : absF tab sigs (OP_laws_toEntryS f_laws_toEntry g_laws_toEntry) A_laws_toEntryS Try.f19 [((.slice 31 (.pair .str (.pair (.int .i64) (.pair (.int .i64) (.slice 9 .str))))), (.own 0))] n [.val (.slice 24 (.pair .str (.pair (.int .i64) (.pair (.int .i64) (.slice 9 .str))))) a0] = laws_toEntryS_P f_laws_toEntry g_laws_toEntry (fun r0 => some [⟨(.slice 31 (.pair .str (.pair (.int .i64) (.pair (.int .i64) (.slice 9 .str))))), r0⟩]) (fun v0_0 v0_1 v0_2 => L_P_laws_toEntryS_0 f_laws_toEntry g_laws_toEntry n n (S_laws_toEntryS_0 v0_0 v0_1 v0_2)) a0 := by kernel_rfl
theorem a_laws_toEntryS (n : Nat) (a0 : (List TEntry)) : absF tab sigs O_laws_toEntryS A_laws_toEntryS Try.f19 [((.slice 31 (.pair .str (.pair (.int .i64) (.pair (.int .i64) (.slice 9 .str))))), (.own 0))] n [.val (.slice 24 (.pair .str (.pair (.int .i64) (.pair (.int .i64) (.slice 9 .str))))) a0] = laws_toEntryS (fun r0 => some [⟨(.slice 31 (.pair .str (.pair (.int .i64) (.pair (.int .i64) (.slice 9 .str))))), r0⟩]) (fun v0_0 v0_1 v0_2 => L_laws_toEntryS_0 n n (S_laws_toEntryS_0 v0_0 v0_1 v0_2)) a0 := aP_laws_toEntryS N.laws_toEntry G.laws_toEntry n a0
theorem said_laws_toEntryS (a0 : (List TEntry)) (g : G.laws_toEntryS a0 = true) : Said Try.prog sigs_19 19 [.val (.slice 24 (.pair .str (.pair (.int .i64) (.pair (.int .i64) (.slice 9 .str))))) a0] [⟨(.slice 31 (.pair .str (.pair (.int .i64) (.pair (.int .i64) (.slice 9 .str))))), N.laws_toEntryS a0⟩] := said_len (T := tab) (A := A_laws_toEntryS) tabOk ok_laws_toEntryS tabOk.follows Try.func19 (by kernel_rfl) (by kernel_rfl) (fun hl => let ⟨n, hn⟩ := laws_toEntryS_ok (ρ := Ret) (fun r0 => some [⟨(.slice 31 (.pair .str (.pair (.int .i64) (.pair (.int .i64) (.slice 9 .str))))), r0⟩]) a0 hl.1 g; ⟨n, (a_laws_toEntryS n a0).trans (hn n (Nat.le_refl n) (fun  m v0_0 v0_1 v0_2 => L_laws_toEntryS_0 n  m (S_laws_toEntryS_0 v0_0 v0_1 v0_2)) (fun  m v0_0 v0_1 v0_2 => b_laws_toEntryS_0 n  m v0_0 v0_1 v0_2))⟩)
/-! spec.CompareLabels -/
abbrev N.spec_CompareLabels (a b : ByteArray) : Int := cmpStr a b
def spec_CompareLabels {ρ : Type} (k : Int → Option ρ) (a0 : ByteArray) (a1 : ByteArray) : Option ρ := (cond (Op.bytesLess (ByteArray.toList a0) (ByteArray.toList a1)) (k (-1 : Int)) (cond (!(Op.bytesLess (ByteArray.toList a0) (ByteArray.toList a1) || ((ByteArray.toList a0) == (ByteArray.toList a1)))) (k (1 : Int)) (k (0 : Int))))
theorem spec_CompareLabels_ok {ρ : Type} (k : Int → Option ρ) (a0 : ByteArray) (a1 : ByteArray) : spec_CompareLabels k  a0 a1 = k (N.spec_CompareLabels a0 a1) := by
  simp only [spec_CompareLabels, cmpStr]
  cases Op.bytesLess a0.toList a1.toList <;> cases a0.toList == a1.toList <;> rfl
def O_spec_CompareLabels : Orac := nilO
theorem ok_spec_CompareLabels : OracOk Try.prog sigs O_spec_CompareLabels := nilO_ok
def A_spec_CompareLabels : Ann := fun b => ⟨[], []⟩
theorem a_spec_CompareLabels (n : Nat) (a0 : ByteArray) (a1 : ByteArray) : absF tab sigs O_spec_CompareLabels A_spec_CompareLabels Try.f70 [((.int .i64), .no)] n [.val .str a0, .val .str a1] = spec_CompareLabels (fun r0 => some [⟨(.int .i64), r0⟩])  a0 a1 := by kernel_rfl
theorem said_spec_CompareLabels (a0 : ByteArray) (a1 : ByteArray) : Said Try.prog sigs_70 70 [.val .str a0, .val .str a1] [⟨(.int .i64), N.spec_CompareLabels a0 a1⟩] := said_len (T := tab) (A := A_spec_CompareLabels) tabOk ok_spec_CompareLabels tabOk.follows Try.func70 (by kernel_rfl) (by kernel_rfl) (fun hl => ⟨0, (a_spec_CompareLabels 0 a0 a1).trans (spec_CompareLabels_ok (ρ := Ret) (fun r0 => some [⟨(.int .i64), r0⟩]) a0 a1)⟩)
/-! spec.AreEntries -/
abbrev G.spec_AreEntries (l : List TEntry) : Bool := decide (wEs l ≤ 1048576)
abbrev N.spec_AreEntries (l : List TEntry) : Bool := areEntries l
def spec_AreEntries_L0 {ρ : Type} (k : Bool → Option ρ) (L0 : (List TEntry) → Int → Option ρ) (v0_0 : (List TEntry)) (v0_1 : Int) : Option ρ := (cond (decide (v0_1 < (List.length v0_0 : Int))) (cond (inRange v0_1 (List.length v0_0)) (cond (G.spec_IsEntry (List.getD v0_0 (Int.toNat v0_1) (ByteArray.empty, ((0 : Int), ((0 : Int), []))))) (cond (!(N.spec_IsEntry (List.getD v0_0 (Int.toNat v0_1) (ByteArray.empty, ((0 : Int), ((0 : Int), [])))))) (k false) (cond (decide (v0_1 > (0 : Int))) (cond (inRange (IntKind.wrap .i64 (v0_1 - (1 : Int))) (List.length v0_0)) (cond (inRange v0_1 (List.length v0_0)) (cond ((N.spec_CompareLabels (List.getD v0_0 (Int.toNat (IntKind.wrap .i64 (v0_1 - (1 : Int)))) (ByteArray.empty, ((0 : Int), ((0 : Int), [])))).1 (List.getD v0_0 (Int.toNat v0_1) (ByteArray.empty, ((0 : Int), ((0 : Int), [])))).1) != (-1 : Int)) (k false) (L0 v0_0 (IntKind.wrap .i64 (v0_1 + (1 : Int))))) none) none) (L0 v0_0 (IntKind.wrap .i64 (v0_1 + (1 : Int)))))) none) none) (k (decide ((List.length v0_0 : Int) ≤ (12 : Int)))))
def spec_AreEntries {ρ : Type} (k : Bool → Option ρ) (L0 : (List TEntry) → Int → Option ρ) (a0 : (List TEntry)) : Option ρ := (L0 a0 (0 : Int))
theorem spec_AreEntries_ok {ρ : Type} (k : Bool → Option ρ) (a0 : (List TEntry)) (l_a0 : lnL (fun y => (True ∧ (True ∧ (True ∧ lnL (fun _ => True) y.2.2.2)))) a0) (g : G.spec_AreEntries a0 = true) : ∃ n0, ∀ n, n0 ≤ n → ∀ (L0 : Nat → (List TEntry) → Int → Option ρ) (h0 : ∀ ( m : Nat) (v0_0 : (List TEntry)) (v0_1 : Int), L0 (m + 1) v0_0 v0_1 = spec_AreEntries_L0 k (L0 m) v0_0 v0_1), spec_AreEntries k (L0 n) a0 = k (N.spec_AreEntries a0) := by
  unfold G.spec_AreEntries at g
  have hw : wEs a0 ≤ 1048576 := of_decide_eq_true g
  have hl : a0.length ≤ 1048576 := by unfold wEs at hw; omega
  refine ⟨a0.length + 1, fun n hn L0 h0 => ?_⟩
  have hrun := raw_run0 (σ := Unit) (s := ()) (L := fun m i _ => L0 m a0 i) (R := fun i _ c => spec_AreEntries_L0 k (fun _ i => c i ()) a0 i) (fun m i s => h0 m a0 i) a0.length (fun _ _ => True) (fun j _ => cond (areFrom a0 (a0.length - j) j) (k (decide (a0.length ≤ 12))) (k false)) (fun j s c hj _ hc => ?_) (fun s c _ => ?_) hn trivial
  · refine hrun.trans ?_
    show _ = k (areFrom a0 a0.length 0 && decide (a0.length ≤ 12))
    rw [Nat.sub_zero]
    cases areFrom a0 a0.length 0 <;> rfl
  · obtain ⟨m, hm⟩ : ∃ m, a0.length - j = m + 1 := ⟨a0.length - j - 1, by omega⟩
    have hm2 : a0.length - (j + 1) = m := by omega
    have hc' := hc () trivial
    rw [hm2] at hc'
    have hmem := wEs_mem (getD_mem (d := (ByteArray.empty, (0, (0, [])))) hj)
    have g2 : decide (wE (a0.getD j (ByteArray.empty, (0, (0, [])))) ≤ 1048576) = true := by simp only [decide_eq_true_eq]; omega
    rw [hm]
    unfold areFrom
    by_cases h0j : j = 0
    · subst h0j
      simp only [spec_AreEntries_L0, lt_nat, inRange_nat, decide_eq_true hj, cond_true, Int.toNat_natCast, G.spec_IsEntry, N.spec_IsEntry, g2, wrap_succ (j := 0) (by unfold big; omega), hc']
      cases isEntry (a0.getD 0 (ByteArray.empty, (0, (0, [])))) <;> simp
    · have e1 : decide ((j : Int) > 0) = true := by simp; omega
      have e2 : IntKind.wrap .i64 ((j : Int) - 1) = ((j - 1 : Nat) : Int) := by rw [wrap_id (by omega) (by omega)]; omega
      have e3 : j - 1 < a0.length := by omega
      simp only [spec_AreEntries_L0, lt_nat, inRange_nat, decide_eq_true hj, cond_true, Int.toNat_natCast, G.spec_IsEntry, N.spec_IsEntry, N.spec_CompareLabels, g2, e1, e2, decide_eq_true e3, wrap_succ (j := j) (by unfold big; omega), hc', decide_eq_false h0j, bne]
      cases isEntry (a0.getD j (ByteArray.empty, (0, (0, [])))) <;> cases cmpStr (a0.getD (j - 1) (ByteArray.empty, (0, (0, [])))).1 (a0.getD j (ByteArray.empty, (0, (0, [])))).1 == -1 <;> simp
  · have e1 : decide ((a0.length : Int) ≤ 12) = decide (a0.length ≤ 12) := by simp only [decide_eq_decide]; omega
    rw [Nat.sub_self]
    simp [spec_AreEntries_L0, areFrom, e1]
def OP_spec_AreEntries (f_spec_IsEntry : TEntry → Bool) (g_spec_IsEntry : TEntry → Bool) (f_spec_CompareLabels : ByteArray → ByteArray → Int) : Orac := (orcX 70 [.val .str, .val .str] (fun d => true) (fun d => [⟨(.int .i64), f_spec_CompareLabels d.1 d.2.1⟩]) (orcX 43 [.val (.pair .str (.pair (.int .i64) (.pair (.int .i64) (.slice 9 .str))))] (fun d => g_spec_IsEntry d.1) (fun d => [⟨.bool, f_spec_IsEntry d.1⟩]) nilO))
def O_spec_AreEntries : Orac := OP_spec_AreEntries N.spec_IsEntry G.spec_IsEntry N.spec_CompareLabels
def spec_AreEntries_P_L0 {ρ : Type} (f_spec_IsEntry : TEntry → Bool) (g_spec_IsEntry : TEntry → Bool) (f_spec_CompareLabels : ByteArray → ByteArray → Int) (k : Bool → Option ρ) (L0 : (List TEntry) → Int → Option ρ) (v0_0 : (List TEntry)) (v0_1 : Int) : Option ρ := (cond (decide (v0_1 < (List.length v0_0 : Int))) (cond (inRange v0_1 (List.length v0_0)) (cond (g_spec_IsEntry (List.getD v0_0 (Int.toNat v0_1) (ByteArray.empty, ((0 : Int), ((0 : Int), []))))) (cond (!(f_spec_IsEntry (List.getD v0_0 (Int.toNat v0_1) (ByteArray.empty, ((0 : Int), ((0 : Int), [])))))) (k false) (cond (decide (v0_1 > (0 : Int))) (cond (inRange (IntKind.wrap .i64 (v0_1 - (1 : Int))) (List.length v0_0)) (cond (inRange v0_1 (List.length v0_0)) (cond ((f_spec_CompareLabels (List.getD v0_0 (Int.toNat (IntKind.wrap .i64 (v0_1 - (1 : Int)))) (ByteArray.empty, ((0 : Int), ((0 : Int), [])))).1 (List.getD v0_0 (Int.toNat v0_1) (ByteArray.empty, ((0 : Int), ((0 : Int), [])))).1) != (-1 : Int)) (k false) (L0 v0_0 (IntKind.wrap .i64 (v0_1 + (1 : Int))))) none) none) (L0 v0_0 (IntKind.wrap .i64 (v0_1 + (1 : Int)))))) none) none) (k (decide ((List.length v0_0 : Int) ≤ (12 : Int)))))
def spec_AreEntries_P {ρ : Type} (f_spec_IsEntry : TEntry → Bool) (g_spec_IsEntry : TEntry → Bool) (f_spec_CompareLabels : ByteArray → ByteArray → Int) (k : Bool → Option ρ) (L0 : (List TEntry) → Int → Option ρ) (a0 : (List TEntry)) : Option ρ := (L0 a0 (0 : Int))
theorem ok_spec_AreEntries : OracOk Try.prog sigs O_spec_AreEntries := (orcX_ok rfl (fun d g => said_spec_CompareLabels d.1 d.2.1) (orcX_ok rfl (fun d g => said_spec_IsEntry d.1 g) nilO_ok))
def A_spec_AreEntries : Ann := fun b => cond (Nat.beq b 0) ⟨[(0, false), (3, false)], []⟩ (⟨[], []⟩)
def S_spec_AreEntries_0 (v0_0 : (List TEntry)) (v0_1 : Int) : St := [(kT 0, some (.tv (.v (.slice 31 (.pair .str (.pair (.int .i64) (.pair (.int .i64) (.slice 9 .str))))) v0_0 .no))), (kT 3, some (.tv (.v (.int .i64) v0_1 .no)))]
noncomputable def L_P_spec_AreEntries_0 (f_spec_IsEntry : TEntry → Bool) (g_spec_IsEntry : TEntry → Bool) (f_spec_CompareLabels : ByteArray → ByteArray → Int) (n m : Nat) : St → Option Ret := loopOf tab sigs (OP_spec_AreEntries f_spec_IsEntry g_spec_IsEntry f_spec_CompareLabels) A_spec_AreEntries Try.f53 [(.bool, .no)] n (fun _ => 0) 0 m
noncomputable def L_spec_AreEntries_0 (n m : Nat) : St → Option Ret := L_P_spec_AreEntries_0 N.spec_IsEntry G.spec_IsEntry N.spec_CompareLabels n m
theorem bP_spec_AreEntries_0 (f_spec_IsEntry : TEntry → Bool) (g_spec_IsEntry : TEntry → Bool) (f_spec_CompareLabels : ByteArray → ByteArray → Int) (n m : Nat) (v0_0 : (List TEntry)) (v0_1 : Int) : L_P_spec_AreEntries_0 f_spec_IsEntry g_spec_IsEntry f_spec_CompareLabels n (m + 1) (S_spec_AreEntries_0 v0_0 v0_1) = spec_AreEntries_P_L0 f_spec_IsEntry g_spec_IsEntry f_spec_CompareLabels (fun r0 => some [⟨.bool, r0⟩]) (fun v0_0 v0_1 => L_P_spec_AreEntries_0 f_spec_IsEntry g_spec_IsEntry f_spec_CompareLabels n m (S_spec_AreEntries_0 v0_0 v0_1)) v0_0 v0_1 := by kernel_rfl
theorem b_spec_AreEntries_0 (n m : Nat) (v0_0 : (List TEntry)) (v0_1 : Int) : L_spec_AreEntries_0 n (m + 1) (S_spec_AreEntries_0 v0_0 v0_1) = spec_AreEntries_L0 (fun r0 => some [⟨.bool, r0⟩]) (fun v0_0 v0_1 => L_spec_AreEntries_0 n m (S_spec_AreEntries_0 v0_0 v0_1)) v0_0 v0_1 := bP_spec_AreEntries_0 N.spec_IsEntry G.spec_IsEntry N.spec_CompareLabels n m v0_0 v0_1
theorem aP_spec_AreEntries (f_spec_IsEntry : TEntry → Bool) (g_spec_IsEntry : TEntry → Bool) (f_spec_CompareLabels : ByteArray → ByteArray → Int) (n : Nat) (a0 : (List TEntry)) : absF tab sigs (OP_spec_AreEntries f_spec_IsEntry g_spec_IsEntry f_spec_CompareLabels) A_spec_AreEntries Try.f53 [(.bool, .no)] n [.val (.slice 31 (.pair .str (.pair (.int .i64) (.pair (.int .i64) (.slice 9 .str))))) a0] = spec_AreEntries_P f_spec_IsEntry g_spec_IsEntry f_spec_CompareLabels (fun r0 => some [⟨.bool, r0⟩]) (fun v0_0 v0_1 => L_P_spec_AreEntries_0 f_spec_IsEntry g_spec_IsEntry f_spec_CompareLabels n n (S_spec_AreEntries_0 v0_0 v0_1)) a0 := by kernel_rfl
theorem a_spec_AreEntries (n : Nat) (a0 : (List TEntry)) : absF tab sigs O_spec_AreEntries A_spec_AreEntries Try.f53 [(.bool, .no)] n [.val (.slice 31 (.pair .str (.pair (.int .i64) (.pair (.int .i64) (.slice 9 .str))))) a0] = spec_AreEntries (fun r0 => some [⟨.bool, r0⟩]) (fun v0_0 v0_1 => L_spec_AreEntries_0 n n (S_spec_AreEntries_0 v0_0 v0_1)) a0 := aP_spec_AreEntries N.spec_IsEntry G.spec_IsEntry N.spec_CompareLabels n a0
theorem said_spec_AreEntries (a0 : (List TEntry)) (g : G.spec_AreEntries a0 = true) : Said Try.prog sigs_53 53 [.val (.slice 31 (.pair .str (.pair (.int .i64) (.pair (.int .i64) (.slice 9 .str))))) a0] [⟨.bool, N.spec_AreEntries a0⟩] := said_len (T := tab) (A := A_spec_AreEntries) tabOk ok_spec_AreEntries tabOk.follows Try.func53 (by kernel_rfl) (by kernel_rfl) (fun hl => let ⟨n, hn⟩ := spec_AreEntries_ok (ρ := Ret) (fun r0 => some [⟨.bool, r0⟩]) a0 hl.1 g; ⟨n, (a_spec_AreEntries n a0).trans (hn n (Nat.le_refl n) (fun  m v0_0 v0_1 => L_spec_AreEntries_0 n  m (S_spec_AreEntries_0 v0_0 v0_1)) (fun  m v0_0 v0_1 => b_spec_AreEntries_0 n  m v0_0 v0_1))⟩)
/-! spec.LeavesOf -/
abbrev G.spec_LeavesOf (l : List TEntry) : Bool := decide (wEs l ≤ 1048576)
abbrev N.spec_LeavesOf (l : List TEntry) : List Int := l.map leafOf
def spec_LeavesOf_L0 {ρ : Type} (k : (List Int) → Option ρ) (L0 : (List TEntry) → Int → (List Int) → Option ρ) (v0_0 : (List TEntry)) (v0_1 : Int) (v0_2 : (List Int)) : Option ρ := (cond (decide (v0_1 < (List.length v0_0 : Int))) (cond (inRange v0_1 (List.length v0_0)) (cond (G.spec_LeafOf (List.getD v0_0 (Int.toNat v0_1) (ByteArray.empty, ((0 : Int), ((0 : Int), []))))) (cond (fit (List.length v0_2) (List.length [(N.spec_LeafOf (List.getD v0_0 (Int.toNat v0_1) (ByteArray.empty, ((0 : Int), ((0 : Int), [])))))])) (L0 v0_0 (IntKind.wrap .i64 (v0_1 + (1 : Int))) (List.append v0_2 [(N.spec_LeafOf (List.getD v0_0 (Int.toNat v0_1) (ByteArray.empty, ((0 : Int), ((0 : Int), [])))))])) none) none) none) (k v0_2))
def spec_LeavesOf {ρ : Type} (k : (List Int) → Option ρ) (L0 : (List TEntry) → Int → (List Int) → Option ρ) (a0 : (List TEntry)) : Option ρ := (L0 a0 (0 : Int) [])
theorem spec_LeavesOf_ok {ρ : Type} (k : (List Int) → Option ρ) (a0 : (List TEntry)) (l_a0 : lnL (fun y => (True ∧ (True ∧ (True ∧ lnL (fun _ => True) y.2.2.2)))) a0) (g : G.spec_LeavesOf a0 = true) : ∃ n0, ∀ n, n0 ≤ n → ∀ (L0 : Nat → (List TEntry) → Int → (List Int) → Option ρ) (h0 : ∀ ( m : Nat) (v0_0 : (List TEntry)) (v0_1 : Int) (v0_2 : (List Int)), L0 (m + 1) v0_0 v0_1 v0_2 = spec_LeavesOf_L0 k (L0 m) v0_0 v0_1 v0_2), spec_LeavesOf k (L0 n) a0 = k (N.spec_LeavesOf a0) := by
  unfold G.spec_LeavesOf at g
  have hw : wEs a0 ≤ 1048576 := of_decide_eq_true g
  have hl : a0.length ≤ 1048576 := by unfold wEs at hw; omega
  refine ⟨a0.length + 1, fun n hn L0 h0 => ?_⟩
  refine raw_map (a := a0) (ByteArray.empty, (0, (0, []))) leafOf 1048576 (k := k) (L := fun m i out => L0 m a0 i out) (R := fun i out c => spec_LeavesOf_L0 k (fun _ i out => c i out) a0 i out) (fun m i s => h0 m a0 i s) (fun j out c hj ho => ?_) (fun out c => ?_) hl hn
  · have hm := wEs_mem (getD_mem (d := (ByteArray.empty, (0, (0, [])))) hj)
    have g2 : decide (wE (a0.getD j (ByteArray.empty, (0, (0, [])))) ≤ 1048576) = true := by simp only [decide_eq_true_eq]; omega
    have e3 : fit out.length 1 = true := fit_of (by omega)
    simp only [spec_LeavesOf_L0, lt_nat, inRange_nat, decide_eq_true hj, cond_true, Int.toNat_natCast, G.spec_LeafOf, g2, List.length_singleton, e3, wrap_succ (j := j) (by unfold big; omega), List.append_eq]
  · simp [spec_LeavesOf_L0]
def OP_spec_LeavesOf (f_spec_LeafOf : TEntry → Int) (g_spec_LeafOf : TEntry → Bool) : Orac := (orcX 42 [.val (.pair .str (.pair (.int .i64) (.pair (.int .i64) (.slice 9 .str))))] (fun d => g_spec_LeafOf d.1) (fun d => [⟨(.int .i64), f_spec_LeafOf d.1⟩]) nilO)
def O_spec_LeavesOf : Orac := OP_spec_LeavesOf N.spec_LeafOf G.spec_LeafOf
def spec_LeavesOf_P_L0 {ρ : Type} (f_spec_LeafOf : TEntry → Int) (g_spec_LeafOf : TEntry → Bool) (k : (List Int) → Option ρ) (L0 : (List TEntry) → Int → (List Int) → Option ρ) (v0_0 : (List TEntry)) (v0_1 : Int) (v0_2 : (List Int)) : Option ρ := (cond (decide (v0_1 < (List.length v0_0 : Int))) (cond (inRange v0_1 (List.length v0_0)) (cond (g_spec_LeafOf (List.getD v0_0 (Int.toNat v0_1) (ByteArray.empty, ((0 : Int), ((0 : Int), []))))) (cond (fit (List.length v0_2) (List.length [(f_spec_LeafOf (List.getD v0_0 (Int.toNat v0_1) (ByteArray.empty, ((0 : Int), ((0 : Int), [])))))])) (L0 v0_0 (IntKind.wrap .i64 (v0_1 + (1 : Int))) (List.append v0_2 [(f_spec_LeafOf (List.getD v0_0 (Int.toNat v0_1) (ByteArray.empty, ((0 : Int), ((0 : Int), [])))))])) none) none) none) (k v0_2))
def spec_LeavesOf_P {ρ : Type} (f_spec_LeafOf : TEntry → Int) (g_spec_LeafOf : TEntry → Bool) (k : (List Int) → Option ρ) (L0 : (List TEntry) → Int → (List Int) → Option ρ) (a0 : (List TEntry)) : Option ρ := (L0 a0 (0 : Int) [])
theorem ok_spec_LeavesOf : OracOk Try.prog sigs O_spec_LeavesOf := (orcX_ok rfl (fun d g => said_spec_LeafOf d.1 g) nilO_ok)
def A_spec_LeavesOf : Ann := fun b => cond (Nat.beq b 0) ⟨[(0, false), (3, true), (4, false)], []⟩ (⟨[], []⟩)
def S_spec_LeavesOf_0 (v0_0 : (List TEntry)) (v0_1 : Int) (v0_2 : (List Int)) : St := [(kT 0, some (.tv (.v (.slice 31 (.pair .str (.pair (.int .i64) (.pair (.int .i64) (.slice 9 .str))))) v0_0 .no))), (kT 3, some (.tv (.v (.slice 3 (.int .i64)) [] (.own 24)))), (kT 4, some (.tv (.v (.int .i64) v0_1 .no))), (kR 24, some (.row 3 (.int .i64) v0_2))]
noncomputable def L_P_spec_LeavesOf_0 (f_spec_LeafOf : TEntry → Int) (g_spec_LeafOf : TEntry → Bool) (n m : Nat) : St → Option Ret := loopOf tab sigs (OP_spec_LeavesOf f_spec_LeafOf g_spec_LeafOf) A_spec_LeavesOf Try.f59 [((.slice 3 (.int .i64)), (.own 0))] n (fun _ => 0) 0 m
noncomputable def L_spec_LeavesOf_0 (n m : Nat) : St → Option Ret := L_P_spec_LeavesOf_0 N.spec_LeafOf G.spec_LeafOf n m
theorem bP_spec_LeavesOf_0 (f_spec_LeafOf : TEntry → Int) (g_spec_LeafOf : TEntry → Bool) (n m : Nat) (v0_0 : (List TEntry)) (v0_1 : Int) (v0_2 : (List Int)) : L_P_spec_LeavesOf_0 f_spec_LeafOf g_spec_LeafOf n (m + 1) (S_spec_LeavesOf_0 v0_0 v0_1 v0_2) = spec_LeavesOf_P_L0 f_spec_LeafOf g_spec_LeafOf (fun r0 => some [⟨(.slice 3 (.int .i64)), r0⟩]) (fun v0_0 v0_1 v0_2 => L_P_spec_LeavesOf_0 f_spec_LeafOf g_spec_LeafOf n m (S_spec_LeavesOf_0 v0_0 v0_1 v0_2)) v0_0 v0_1 v0_2 := by kernel_rfl
theorem b_spec_LeavesOf_0 (n m : Nat) (v0_0 : (List TEntry)) (v0_1 : Int) (v0_2 : (List Int)) : L_spec_LeavesOf_0 n (m + 1) (S_spec_LeavesOf_0 v0_0 v0_1 v0_2) = spec_LeavesOf_L0 (fun r0 => some [⟨(.slice 3 (.int .i64)), r0⟩]) (fun v0_0 v0_1 v0_2 => L_spec_LeavesOf_0 n m (S_spec_LeavesOf_0 v0_0 v0_1 v0_2)) v0_0 v0_1 v0_2 := bP_spec_LeavesOf_0 N.spec_LeafOf G.spec_LeafOf n m v0_0 v0_1 v0_2
theorem aP_spec_LeavesOf (f_spec_LeafOf : TEntry → Int) (g_spec_LeafOf : TEntry → Bool) (n : Nat) (a0 : (List TEntry)) : absF tab sigs (OP_spec_LeavesOf f_spec_LeafOf g_spec_LeafOf) A_spec_LeavesOf Try.f59 [((.slice 3 (.int .i64)), (.own 0))] n [.val (.slice 31 (.pair .str (.pair (.int .i64) (.pair (.int .i64) (.slice 9 .str))))) a0] = spec_LeavesOf_P f_spec_LeafOf g_spec_LeafOf (fun r0 => some [⟨(.slice 3 (.int .i64)), r0⟩]) (fun v0_0 v0_1 v0_2 => L_P_spec_LeavesOf_0 f_spec_LeafOf g_spec_LeafOf n n (S_spec_LeavesOf_0 v0_0 v0_1 v0_2)) a0 := by kernel_rfl
theorem a_spec_LeavesOf (n : Nat) (a0 : (List TEntry)) : absF tab sigs O_spec_LeavesOf A_spec_LeavesOf Try.f59 [((.slice 3 (.int .i64)), (.own 0))] n [.val (.slice 31 (.pair .str (.pair (.int .i64) (.pair (.int .i64) (.slice 9 .str))))) a0] = spec_LeavesOf (fun r0 => some [⟨(.slice 3 (.int .i64)), r0⟩]) (fun v0_0 v0_1 v0_2 => L_spec_LeavesOf_0 n n (S_spec_LeavesOf_0 v0_0 v0_1 v0_2)) a0 := aP_spec_LeavesOf N.spec_LeafOf G.spec_LeafOf n a0
theorem said_spec_LeavesOf (a0 : (List TEntry)) (g : G.spec_LeavesOf a0 = true) : Said Try.prog sigs_59 59 [.val (.slice 31 (.pair .str (.pair (.int .i64) (.pair (.int .i64) (.slice 9 .str))))) a0] [⟨(.slice 3 (.int .i64)), N.spec_LeavesOf a0⟩] := said_len (T := tab) (A := A_spec_LeavesOf) tabOk ok_spec_LeavesOf tabOk.follows Try.func59 (by kernel_rfl) (by kernel_rfl) (fun hl => let ⟨n, hn⟩ := spec_LeavesOf_ok (ρ := Ret) (fun r0 => some [⟨(.slice 3 (.int .i64)), r0⟩]) a0 hl.1 g; ⟨n, (a_spec_LeavesOf n a0).trans (hn n (Nat.le_refl n) (fun  m v0_0 v0_1 v0_2 => L_spec_LeavesOf_0 n  m (S_spec_LeavesOf_0 v0_0 v0_1 v0_2)) (fun  m v0_0 v0_1 v0_2 => b_spec_LeavesOf_0 n  m v0_0 v0_1 v0_2))⟩)
/-! spec.l10Up -/
abbrev G.spec_l10Up (l : List Int) : Bool := decide (l.length ≤ 1048576)
abbrev N.spec_l10Up (l : List Int) : List Int := up l
def spec_l10Up_L0 {ρ : Type} (k : (List Int) → Option ρ) (L0 : (List Int) → Int → (List Int) → Option ρ) (v0_0 : (List Int)) (v0_1 : Int) (v0_2 : (List Int)) : Option ρ := (cond (decide (v0_1 < (List.length v0_0 : Int))) (cond (decide ((IntKind.wrap .i64 (v0_1 + (1 : Int))) < (List.length v0_0 : Int))) (cond (inRange v0_1 (List.length v0_0)) (cond (inRange (IntKind.wrap .i64 (v0_1 + (1 : Int))) (List.length v0_0)) (cond (fit (List.length v0_2) (List.length [(N.spec_NodeOf (List.getD v0_0 (Int.toNat v0_1) (0 : Int)) (List.getD v0_0 (Int.toNat (IntKind.wrap .i64 (v0_1 + (1 : Int)))) (0 : Int)))])) (L0 v0_0 (IntKind.wrap .i64 (v0_1 + (2 : Int))) (List.append v0_2 [(N.spec_NodeOf (List.getD v0_0 (Int.toNat v0_1) (0 : Int)) (List.getD v0_0 (Int.toNat (IntKind.wrap .i64 (v0_1 + (1 : Int)))) (0 : Int)))])) none) none) none) (cond (inRange v0_1 (List.length v0_0)) (cond (fit (List.length v0_2) (List.length [(List.getD v0_0 (Int.toNat v0_1) (0 : Int))])) (L0 v0_0 (IntKind.wrap .i64 (v0_1 + (2 : Int))) (List.append v0_2 [(List.getD v0_0 (Int.toNat v0_1) (0 : Int))])) none) none)) (k v0_2))
def spec_l10Up {ρ : Type} (k : (List Int) → Option ρ) (L0 : (List Int) → Int → (List Int) → Option ρ) (a0 : (List Int)) : Option ρ := (L0 a0 (0 : Int) [])
theorem spec_l10Up_ok {ρ : Type} (k : (List Int) → Option ρ) (a0 : (List Int)) (l_a0 : lnL (fun _ => True) a0) (g : G.spec_l10Up a0 = true) : ∃ n0, ∀ n, n0 ≤ n → ∀ (L0 : Nat → (List Int) → Int → (List Int) → Option ρ) (h0 : ∀ ( m : Nat) (v0_0 : (List Int)) (v0_1 : Int) (v0_2 : (List Int)), L0 (m + 1) v0_0 v0_1 v0_2 = spec_l10Up_L0 k (L0 m) v0_0 v0_1 v0_2), spec_l10Up k (L0 n) a0 = k (N.spec_l10Up a0) := by
  unfold G.spec_l10Up at g
  have hlen : a0.length ≤ 1048576 := of_decide_eq_true g
  refine ⟨a0.length + 1, fun n hn L0 h0 => ?_⟩
  refine (raw_meas (σ := Int × List Int) (L := fun m s => L0 m a0 s.1 s.2) (R := fun s c => spec_l10Up_L0 k (fun _ i out => c (i, out)) a0 s.1 s.2) (fun m s => h0 m a0 s.1 s.2) (fun s => 0 ≤ s.1 ∧ s.2.length + s.1 ≤ 2097160 ∧ s.1 ≤ a0.length + 1 ∧ s.2.length ≤ s.1) (fun s => a0.length - s.1.toNat) (fun s => k (s.2 ++ up (a0.drop s.1.toNat))) (fun s c hI hc => ?_) n (0, []) ⟨by simp, by simp, by simp; omega, by simp⟩ (by simp; omega)).trans (by simp)
  obtain ⟨j, out⟩ := s
  obtain ⟨hj0, hj1, hj2, hj3⟩ := hI
  dsimp only at hj0 hj1 hj2 hj3 hc ⊢
  obtain ⟨j, rfl⟩ := Int.eq_ofNat_of_zero_le hj0
  rw [Int.toNat_natCast]
  by_cases h : j < a0.length
  · have e1 : IntKind.wrap .i64 ((j : Int) + 2) = ((j + 2 : Nat) : Int) := by rw [wrap_id (by omega) (by omega)]; omega
    have e2 : IntKind.wrap .i64 ((j : Int) + 1) = ((j + 1 : Nat) : Int) := wrap_succ (by unfold big; omega)
    have e3 : fit out.length 1 = true := fit_of (by omega)
    by_cases h2 : j + 1 < a0.length
    · have hd : a0.drop j = a0.getD j 0 :: a0.getD (j + 1) 0 :: a0.drop (j + 2) := by rw [drop_cons 0 h, drop_cons 0 h2]
      have := hc (((j + 2 : Nat) : Int), out ++ [nodeOf (a0.getD j 0) (a0.getD (j + 1) 0)]) ⟨by simp; omega, by simp; omega, by simp; omega, by simp; omega⟩ (by simp; omega)
      dsimp only at this
      rw [Int.toNat_natCast] at this
      simp only [spec_l10Up_L0, e1, e2, lt_nat, inRange_nat, decide_eq_true h, decide_eq_true h2, cond_true, Int.toNat_natCast, List.length_singleton, Int.natCast_one, e3, List.append_eq, this, hd]
      simp [up]
    · have hd : a0.drop j = [a0.getD j 0] := by rw [drop_cons 0 h, List.drop_of_length_le (by omega)]
      have := hc (((j + 2 : Nat) : Int), out ++ [a0.getD j 0]) ⟨by simp; omega, by simp; omega, by simp; omega, by simp; omega⟩ (by simp; omega)
      dsimp only at this
      rw [Int.toNat_natCast, List.drop_of_length_le (by omega)] at this
      simp only [spec_l10Up_L0, e1, e2, lt_nat, inRange_nat, decide_eq_true h, decide_eq_false h2, cond_true, cond_false, Int.toNat_natCast, List.length_singleton, Int.natCast_one, e3, List.append_eq, this, hd]
      simp [up]
  · simp [spec_l10Up_L0, lt_nat, h, List.drop_of_length_le (Nat.not_lt.1 h), up]
def OP_spec_l10Up (f_spec_NodeOf : Int → Int → Int) : Orac := (orcX 85 [.val (.int .i64), .val (.int .i64)] (fun d => true) (fun d => [⟨(.int .i64), f_spec_NodeOf d.1 d.2.1⟩]) nilO)
def O_spec_l10Up : Orac := OP_spec_l10Up N.spec_NodeOf
def spec_l10Up_P_L0 {ρ : Type} (f_spec_NodeOf : Int → Int → Int) (k : (List Int) → Option ρ) (L0 : (List Int) → Int → (List Int) → Option ρ) (v0_0 : (List Int)) (v0_1 : Int) (v0_2 : (List Int)) : Option ρ := (cond (decide (v0_1 < (List.length v0_0 : Int))) (cond (decide ((IntKind.wrap .i64 (v0_1 + (1 : Int))) < (List.length v0_0 : Int))) (cond (inRange v0_1 (List.length v0_0)) (cond (inRange (IntKind.wrap .i64 (v0_1 + (1 : Int))) (List.length v0_0)) (cond (fit (List.length v0_2) (List.length [(f_spec_NodeOf (List.getD v0_0 (Int.toNat v0_1) (0 : Int)) (List.getD v0_0 (Int.toNat (IntKind.wrap .i64 (v0_1 + (1 : Int)))) (0 : Int)))])) (L0 v0_0 (IntKind.wrap .i64 (v0_1 + (2 : Int))) (List.append v0_2 [(f_spec_NodeOf (List.getD v0_0 (Int.toNat v0_1) (0 : Int)) (List.getD v0_0 (Int.toNat (IntKind.wrap .i64 (v0_1 + (1 : Int)))) (0 : Int)))])) none) none) none) (cond (inRange v0_1 (List.length v0_0)) (cond (fit (List.length v0_2) (List.length [(List.getD v0_0 (Int.toNat v0_1) (0 : Int))])) (L0 v0_0 (IntKind.wrap .i64 (v0_1 + (2 : Int))) (List.append v0_2 [(List.getD v0_0 (Int.toNat v0_1) (0 : Int))])) none) none)) (k v0_2))
def spec_l10Up_P {ρ : Type} (f_spec_NodeOf : Int → Int → Int) (k : (List Int) → Option ρ) (L0 : (List Int) → Int → (List Int) → Option ρ) (a0 : (List Int)) : Option ρ := (L0 a0 (0 : Int) [])
theorem ok_spec_l10Up : OracOk Try.prog sigs O_spec_l10Up := (orcX_ok rfl (fun d g => said_spec_NodeOf d.1 d.2.1) nilO_ok)
def A_spec_l10Up : Ann := fun b => cond (Nat.beq b 0) ⟨[(0, false), (3, true), (4, false)], []⟩ (⟨[], []⟩)
def S_spec_l10Up_0 (v0_0 : (List Int)) (v0_1 : Int) (v0_2 : (List Int)) : St := [(kT 0, some (.tv (.v (.slice 3 (.int .i64)) v0_0 .no))), (kT 3, some (.tv (.v (.slice 3 (.int .i64)) [] (.own 24)))), (kT 4, some (.tv (.v (.int .i64) v0_1 .no))), (kR 24, some (.row 3 (.int .i64) v0_2))]
noncomputable def L_P_spec_l10Up_0 (f_spec_NodeOf : Int → Int → Int) (n m : Nat) : St → Option Ret := loopOf tab sigs (OP_spec_l10Up f_spec_NodeOf) A_spec_l10Up Try.f97 [((.slice 3 (.int .i64)), (.own 0))] n (fun _ => 0) 0 m
noncomputable def L_spec_l10Up_0 (n m : Nat) : St → Option Ret := L_P_spec_l10Up_0 N.spec_NodeOf n m
theorem bP_spec_l10Up_0 (f_spec_NodeOf : Int → Int → Int) (n m : Nat) (v0_0 : (List Int)) (v0_1 : Int) (v0_2 : (List Int)) : L_P_spec_l10Up_0 f_spec_NodeOf n (m + 1) (S_spec_l10Up_0 v0_0 v0_1 v0_2) = spec_l10Up_P_L0 f_spec_NodeOf (fun r0 => some [⟨(.slice 3 (.int .i64)), r0⟩]) (fun v0_0 v0_1 v0_2 => L_P_spec_l10Up_0 f_spec_NodeOf n m (S_spec_l10Up_0 v0_0 v0_1 v0_2)) v0_0 v0_1 v0_2 := by kernel_rfl
theorem b_spec_l10Up_0 (n m : Nat) (v0_0 : (List Int)) (v0_1 : Int) (v0_2 : (List Int)) : L_spec_l10Up_0 n (m + 1) (S_spec_l10Up_0 v0_0 v0_1 v0_2) = spec_l10Up_L0 (fun r0 => some [⟨(.slice 3 (.int .i64)), r0⟩]) (fun v0_0 v0_1 v0_2 => L_spec_l10Up_0 n m (S_spec_l10Up_0 v0_0 v0_1 v0_2)) v0_0 v0_1 v0_2 := bP_spec_l10Up_0 N.spec_NodeOf n m v0_0 v0_1 v0_2
theorem aP_spec_l10Up (f_spec_NodeOf : Int → Int → Int) (n : Nat) (a0 : (List Int)) : absF tab sigs (OP_spec_l10Up f_spec_NodeOf) A_spec_l10Up Try.f97 [((.slice 3 (.int .i64)), (.own 0))] n [.val (.slice 3 (.int .i64)) a0] = spec_l10Up_P f_spec_NodeOf (fun r0 => some [⟨(.slice 3 (.int .i64)), r0⟩]) (fun v0_0 v0_1 v0_2 => L_P_spec_l10Up_0 f_spec_NodeOf n n (S_spec_l10Up_0 v0_0 v0_1 v0_2)) a0 := by kernel_rfl
theorem a_spec_l10Up (n : Nat) (a0 : (List Int)) : absF tab sigs O_spec_l10Up A_spec_l10Up Try.f97 [((.slice 3 (.int .i64)), (.own 0))] n [.val (.slice 3 (.int .i64)) a0] = spec_l10Up (fun r0 => some [⟨(.slice 3 (.int .i64)), r0⟩]) (fun v0_0 v0_1 v0_2 => L_spec_l10Up_0 n n (S_spec_l10Up_0 v0_0 v0_1 v0_2)) a0 := aP_spec_l10Up N.spec_NodeOf n a0
theorem said_spec_l10Up (a0 : (List Int)) (g : G.spec_l10Up a0 = true) : Said Try.prog sigs_97 97 [.val (.slice 3 (.int .i64)) a0] [⟨(.slice 3 (.int .i64)), N.spec_l10Up a0⟩] := said_len (T := tab) (A := A_spec_l10Up) tabOk ok_spec_l10Up tabOk.follows Try.func97 (by kernel_rfl) (by kernel_rfl) (fun hl => let ⟨n, hn⟩ := spec_l10Up_ok (ρ := Ret) (fun r0 => some [⟨(.slice 3 (.int .i64)), r0⟩]) a0 hl.1 g; ⟨n, (a_spec_l10Up n a0).trans (hn n (Nat.le_refl n) (fun  m v0_0 v0_1 v0_2 => L_spec_l10Up_0 n  m (S_spec_l10Up_0 v0_0 v0_1 v0_2)) (fun  m v0_0 v0_1 v0_2 => b_spec_l10Up_0 n  m v0_0 v0_1 v0_2))⟩)
/-! spec.TopOf -/
abbrev G.spec_TopOf (l : List Int) : Bool := decide (l.length ≤ 1048576)
abbrev N.spec_TopOf (l : List Int) : Int := topOf l
def spec_TopOf_L0 {ρ : Type} (k : Int → Option ρ) (L0 : (List Int) → Option ρ) (v0_0 : (List Int)) : Option ρ := (cond (decide ((List.length v0_0 : Int) > (1 : Int))) (cond (G.spec_l10Up v0_0) (L0 (N.spec_l10Up v0_0)) none) (cond (inRange (0 : Int) (List.length v0_0)) (k (List.getD v0_0 0 (0 : Int))) none))
def spec_TopOf {ρ : Type} (k : Int → Option ρ) (L0 : (List Int) → Option ρ) (a0 : (List Int)) : Option ρ := (cond ((List.length a0 : Int) == (0 : Int)) (k (N.spec_Hash [(229 : Int)])) (L0 a0))
theorem spec_TopOf_ok {ρ : Type} (k : Int → Option ρ) (a0 : (List Int)) (l_a0 : lnL (fun _ => True) a0) (g : G.spec_TopOf a0 = true) : ∃ n0, ∀ n, n0 ≤ n → ∀ (L0 : Nat → (List Int) → Option ρ) (h0 : ∀ ( m : Nat) (v0_0 : (List Int)), L0 (m + 1) v0_0 = spec_TopOf_L0 k (L0 m) v0_0), spec_TopOf k (L0 n) a0 = k (N.spec_TopOf a0) := by
  unfold G.spec_TopOf at g
  have hlen : a0.length ≤ 1048576 := of_decide_eq_true g
  refine ⟨a0.length + 1, fun n hn L0 h0 => ?_⟩
  unfold spec_TopOf
  show _ = k (topOf a0)
  unfold topOf
  by_cases h : a0.length = 0
  · simp [h]
  · have e1 : ((a0.length : Int) == 0) = false := by simpa using h
    rw [e1, decide_eq_false h]
    refine raw_meas (L := fun m s => L0 m s) (R := fun s c => spec_TopOf_L0 k c s) (fun m s => h0 m s) (fun s => 0 < s.length ∧ s.length ≤ 1048576) (fun s => s.length) (fun s => k (topN s.length s)) (fun s c hI hc => ?_) n a0 ⟨by omega, hlen⟩ (by omega)
    unfold spec_TopOf_L0
    by_cases h1 : 1 < s.length
    · have e2 : decide ((s.length : Int) > 1) = true := by simp; omega
      have hu := up_len s
      have e3 : decide (s.length ≤ 1048576) = true := by simpa using hI.2
      have := hc (up s) ⟨by omega, by omega⟩ (by omega)
      simp only [e2, e3, cond_true, this]
      congr 1
      obtain ⟨q, hq⟩ : ∃ q, s.length = q + 1 := ⟨s.length - 1, by omega⟩
      rw [hq]
      show _ = cond (decide (1 < s.length)) (topN q (up s)) _
      rw [decide_eq_true h1]
      exact topN_more _ _ _ (by omega) (by omega)
    · have e2 : decide ((s.length : Int) > 1) = false := by simp; omega
      have e3 : inRange 0 s.length = true := by unfold inRange; simp; omega
      have e4 : s.length = 1 := by omega
      rw [e4] at e3
      simp [e2, e3, e4, topN]
def OP_spec_TopOf (f_spec_Hash : (List Int) → Int) (f_spec_l10Up : (List Int) → (List Int)) (g_spec_l10Up : (List Int) → Bool) : Orac := (orcX 97 [.val (.slice 3 (.int .i64))] (fun d => g_spec_l10Up d.1) (fun d => [⟨(.slice 3 (.int .i64)), f_spec_l10Up d.1⟩]) (orcX 86 [.val (.slice 3 (.int .i64))] (fun d => true) (fun d => [⟨(.int .i64), f_spec_Hash d.1⟩]) nilO))
def O_spec_TopOf : Orac := OP_spec_TopOf N.spec_Hash N.spec_l10Up G.spec_l10Up
def spec_TopOf_P_L0 {ρ : Type} (f_spec_Hash : (List Int) → Int) (f_spec_l10Up : (List Int) → (List Int)) (g_spec_l10Up : (List Int) → Bool) (k : Int → Option ρ) (L0 : (List Int) → Option ρ) (v0_0 : (List Int)) : Option ρ := (cond (decide ((List.length v0_0 : Int) > (1 : Int))) (cond (g_spec_l10Up v0_0) (L0 (f_spec_l10Up v0_0)) none) (cond (inRange (0 : Int) (List.length v0_0)) (k (List.getD v0_0 0 (0 : Int))) none))
def spec_TopOf_P {ρ : Type} (f_spec_Hash : (List Int) → Int) (f_spec_l10Up : (List Int) → (List Int)) (g_spec_l10Up : (List Int) → Bool) (k : Int → Option ρ) (L0 : (List Int) → Option ρ) (a0 : (List Int)) : Option ρ := (cond ((List.length a0 : Int) == (0 : Int)) (k (f_spec_Hash [(229 : Int)])) (L0 a0))
theorem ok_spec_TopOf : OracOk Try.prog sigs O_spec_TopOf := (orcX_ok rfl (fun d g => said_spec_l10Up d.1 g) (orcX_ok rfl (fun d g => said_spec_Hash d.1) nilO_ok))
def A_spec_TopOf : Ann := fun b => cond (Nat.beq b 0) ⟨[(3, false)], []⟩ (⟨[], []⟩)
def S_spec_TopOf_0 (v0_0 : (List Int)) : St := [(kT 3, some (.tv (.v (.slice 3 (.int .i64)) v0_0 .no)))]
noncomputable def L_P_spec_TopOf_0 (f_spec_Hash : (List Int) → Int) (f_spec_l10Up : (List Int) → (List Int)) (g_spec_l10Up : (List Int) → Bool) (n m : Nat) : St → Option Ret := loopOf tab sigs (OP_spec_TopOf f_spec_Hash f_spec_l10Up g_spec_l10Up) A_spec_TopOf Try.f95 [((.int .i64), .no)] n (fun _ => 0) 0 m
noncomputable def L_spec_TopOf_0 (n m : Nat) : St → Option Ret := L_P_spec_TopOf_0 N.spec_Hash N.spec_l10Up G.spec_l10Up n m
theorem bP_spec_TopOf_0 (f_spec_Hash : (List Int) → Int) (f_spec_l10Up : (List Int) → (List Int)) (g_spec_l10Up : (List Int) → Bool) (n m : Nat) (v0_0 : (List Int)) : L_P_spec_TopOf_0 f_spec_Hash f_spec_l10Up g_spec_l10Up n (m + 1) (S_spec_TopOf_0 v0_0) = spec_TopOf_P_L0 f_spec_Hash f_spec_l10Up g_spec_l10Up (fun r0 => some [⟨(.int .i64), r0⟩]) (fun v0_0 => L_P_spec_TopOf_0 f_spec_Hash f_spec_l10Up g_spec_l10Up n m (S_spec_TopOf_0 v0_0)) v0_0 := by kernel_rfl
theorem b_spec_TopOf_0 (n m : Nat) (v0_0 : (List Int)) : L_spec_TopOf_0 n (m + 1) (S_spec_TopOf_0 v0_0) = spec_TopOf_L0 (fun r0 => some [⟨(.int .i64), r0⟩]) (fun v0_0 => L_spec_TopOf_0 n m (S_spec_TopOf_0 v0_0)) v0_0 := bP_spec_TopOf_0 N.spec_Hash N.spec_l10Up G.spec_l10Up n m v0_0
theorem aP_spec_TopOf (f_spec_Hash : (List Int) → Int) (f_spec_l10Up : (List Int) → (List Int)) (g_spec_l10Up : (List Int) → Bool) (n : Nat) (a0 : (List Int)) : absF tab sigs (OP_spec_TopOf f_spec_Hash f_spec_l10Up g_spec_l10Up) A_spec_TopOf Try.f95 [((.int .i64), .no)] n [.val (.slice 3 (.int .i64)) a0] = spec_TopOf_P f_spec_Hash f_spec_l10Up g_spec_l10Up (fun r0 => some [⟨(.int .i64), r0⟩]) (fun v0_0 => L_P_spec_TopOf_0 f_spec_Hash f_spec_l10Up g_spec_l10Up n n (S_spec_TopOf_0 v0_0)) a0 := by kernel_rfl
theorem a_spec_TopOf (n : Nat) (a0 : (List Int)) : absF tab sigs O_spec_TopOf A_spec_TopOf Try.f95 [((.int .i64), .no)] n [.val (.slice 3 (.int .i64)) a0] = spec_TopOf (fun r0 => some [⟨(.int .i64), r0⟩]) (fun v0_0 => L_spec_TopOf_0 n n (S_spec_TopOf_0 v0_0)) a0 := aP_spec_TopOf N.spec_Hash N.spec_l10Up G.spec_l10Up n a0
theorem said_spec_TopOf (a0 : (List Int)) (g : G.spec_TopOf a0 = true) : Said Try.prog sigs_95 95 [.val (.slice 3 (.int .i64)) a0] [⟨(.int .i64), N.spec_TopOf a0⟩] := said_len (T := tab) (A := A_spec_TopOf) tabOk ok_spec_TopOf tabOk.follows Try.func95 (by kernel_rfl) (by kernel_rfl) (fun hl => let ⟨n, hn⟩ := spec_TopOf_ok (ρ := Ret) (fun r0 => some [⟨(.int .i64), r0⟩]) a0 hl.1 g; ⟨n, (a_spec_TopOf n a0).trans (hn n (Nat.le_refl n) (fun  m v0_0 => L_spec_TopOf_0 n  m (S_spec_TopOf_0 v0_0)) (fun  m v0_0 => b_spec_TopOf_0 n  m v0_0))⟩)
/-! spec.RootOf -/
abbrev G.spec_RootOf (l : List TEntry) : Bool := decide (wEs l ≤ 1048576)
abbrev N.spec_RootOf (l : List TEntry) : Int := rootOf l
def spec_RootOf {ρ : Type} (k : Int → Option ρ) (a0 : (List TEntry)) : Option ρ := (cond (G.spec_LeavesOf a0) (cond (G.spec_TopOf (N.spec_LeavesOf a0)) (k (N.spec_l10Root (List.length a0 : Int) (N.spec_TopOf (N.spec_LeavesOf a0)))) none) none)
theorem spec_RootOf_ok {ρ : Type} (k : Int → Option ρ) (a0 : (List TEntry)) (l_a0 : lnL (fun y => (True ∧ (True ∧ (True ∧ lnL (fun _ => True) y.2.2.2)))) a0) (g : G.spec_RootOf a0 = true) : spec_RootOf k  a0 = k (N.spec_RootOf a0) := by
  unfold G.spec_RootOf at g
  have hw : wEs a0 ≤ 1048576 := of_decide_eq_true g
  have hl : decide ((a0.map leafOf).length ≤ 1048576) = true := by unfold wEs at hw; simp; omega
  show cond (decide (wEs a0 ≤ 1048576)) (cond (decide ((a0.map leafOf).length ≤ 1048576)) _ none) none = _
  rw [g, hl]
  rfl
def OP_spec_RootOf (f_spec_LeavesOf : (List TEntry) → (List Int)) (g_spec_LeavesOf : (List TEntry) → Bool) (f_spec_TopOf : (List Int) → Int) (g_spec_TopOf : (List Int) → Bool) (f_spec_l10Root : Int → Int → Int) : Orac := (orcX 44 [.val (.int .i64), .val (.int .i64)] (fun d => true) (fun d => [⟨(.int .i64), f_spec_l10Root d.1 d.2.1⟩]) (orcX 95 [.val (.slice 3 (.int .i64))] (fun d => g_spec_TopOf d.1) (fun d => [⟨(.int .i64), f_spec_TopOf d.1⟩]) (orcX 59 [.val (.slice 31 (.pair .str (.pair (.int .i64) (.pair (.int .i64) (.slice 9 .str)))))] (fun d => g_spec_LeavesOf d.1) (fun d => [⟨(.slice 3 (.int .i64)), f_spec_LeavesOf d.1⟩]) nilO)))
def O_spec_RootOf : Orac := OP_spec_RootOf N.spec_LeavesOf G.spec_LeavesOf N.spec_TopOf G.spec_TopOf N.spec_l10Root
def spec_RootOf_P {ρ : Type} (f_spec_LeavesOf : (List TEntry) → (List Int)) (g_spec_LeavesOf : (List TEntry) → Bool) (f_spec_TopOf : (List Int) → Int) (g_spec_TopOf : (List Int) → Bool) (f_spec_l10Root : Int → Int → Int) (k : Int → Option ρ) (a0 : (List TEntry)) : Option ρ := (cond (g_spec_LeavesOf a0) (cond (g_spec_TopOf (f_spec_LeavesOf a0)) (k (f_spec_l10Root (List.length a0 : Int) (f_spec_TopOf (f_spec_LeavesOf a0)))) none) none)
theorem ok_spec_RootOf : OracOk Try.prog sigs O_spec_RootOf := (orcX_ok rfl (fun d g => said_spec_l10Root d.1 d.2.1) (orcX_ok rfl (fun d g => said_spec_TopOf d.1 g) (orcX_ok rfl (fun d g => said_spec_LeavesOf d.1 g) nilO_ok)))
def A_spec_RootOf : Ann := fun b => ⟨[], []⟩
theorem aP_spec_RootOf (f_spec_LeavesOf : (List TEntry) → (List Int)) (g_spec_LeavesOf : (List TEntry) → Bool) (f_spec_TopOf : (List Int) → Int) (g_spec_TopOf : (List Int) → Bool) (f_spec_l10Root : Int → Int → Int) (n : Nat) (a0 : (List TEntry)) : absF tab sigs (OP_spec_RootOf f_spec_LeavesOf g_spec_LeavesOf f_spec_TopOf g_spec_TopOf f_spec_l10Root) A_spec_RootOf Try.f54 [((.int .i64), .no)] n [.val (.slice 31 (.pair .str (.pair (.int .i64) (.pair (.int .i64) (.slice 9 .str))))) a0] = spec_RootOf_P f_spec_LeavesOf g_spec_LeavesOf f_spec_TopOf g_spec_TopOf f_spec_l10Root (fun r0 => some [⟨(.int .i64), r0⟩])  a0 := by kernel_rfl
theorem a_spec_RootOf (n : Nat) (a0 : (List TEntry)) : absF tab sigs O_spec_RootOf A_spec_RootOf Try.f54 [((.int .i64), .no)] n [.val (.slice 31 (.pair .str (.pair (.int .i64) (.pair (.int .i64) (.slice 9 .str))))) a0] = spec_RootOf (fun r0 => some [⟨(.int .i64), r0⟩])  a0 := aP_spec_RootOf N.spec_LeavesOf G.spec_LeavesOf N.spec_TopOf G.spec_TopOf N.spec_l10Root n a0
theorem said_spec_RootOf (a0 : (List TEntry)) (g : G.spec_RootOf a0 = true) : Said Try.prog sigs_54 54 [.val (.slice 31 (.pair .str (.pair (.int .i64) (.pair (.int .i64) (.slice 9 .str))))) a0] [⟨(.int .i64), N.spec_RootOf a0⟩] := said_len (T := tab) (A := A_spec_RootOf) tabOk ok_spec_RootOf tabOk.follows Try.func54 (by kernel_rfl) (by kernel_rfl) (fun hl => ⟨0, (a_spec_RootOf 0 a0).trans (spec_RootOf_ok (ρ := Ret) (fun r0 => some [⟨(.int .i64), r0⟩]) a0 hl.1 g)⟩)
/-! spec.CheckAll -/
abbrev G.spec_CheckAll (root : Int) (l : List TEntry) : Bool := decide (wEs l ≤ 1048576)
abbrev N.spec_CheckAll (root : Int) (l : List TEntry) : Bool := checkAll root l
def spec_CheckAll {ρ : Type} (k : Bool → Option ρ) (a0 : Int) (a1 : (List TEntry)) : Option ρ := (cond (G.spec_AreEntries a1) (cond (N.spec_AreEntries a1) (cond (G.spec_RootOf a1) (k ((N.spec_RootOf a1) == a0)) none) (k false)) none)
theorem spec_CheckAll_ok {ρ : Type} (k : Bool → Option ρ) (a0 : Int) (a1 : (List TEntry)) (l_a1 : lnL (fun y => (True ∧ (True ∧ (True ∧ lnL (fun _ => True) y.2.2.2)))) a1) (g : G.spec_CheckAll a0 a1 = true) : spec_CheckAll k  a0 a1 = k (N.spec_CheckAll a0 a1) := by
  unfold G.spec_CheckAll at g
  simp only [spec_CheckAll, G.spec_AreEntries, N.spec_AreEntries, G.spec_RootOf, N.spec_RootOf, N.spec_CheckAll, g, cond_true, checkAll]
  exact cond_and k _ _
def OP_spec_CheckAll (f_spec_AreEntries : (List TEntry) → Bool) (g_spec_AreEntries : (List TEntry) → Bool) (f_spec_RootOf : (List TEntry) → Int) (g_spec_RootOf : (List TEntry) → Bool) : Orac := (orcX 54 [.val (.slice 31 (.pair .str (.pair (.int .i64) (.pair (.int .i64) (.slice 9 .str)))))] (fun d => g_spec_RootOf d.1) (fun d => [⟨(.int .i64), f_spec_RootOf d.1⟩]) (orcX 53 [.val (.slice 31 (.pair .str (.pair (.int .i64) (.pair (.int .i64) (.slice 9 .str)))))] (fun d => g_spec_AreEntries d.1) (fun d => [⟨.bool, f_spec_AreEntries d.1⟩]) nilO))
def O_spec_CheckAll : Orac := OP_spec_CheckAll N.spec_AreEntries G.spec_AreEntries N.spec_RootOf G.spec_RootOf
def spec_CheckAll_P {ρ : Type} (f_spec_AreEntries : (List TEntry) → Bool) (g_spec_AreEntries : (List TEntry) → Bool) (f_spec_RootOf : (List TEntry) → Int) (g_spec_RootOf : (List TEntry) → Bool) (k : Bool → Option ρ) (a0 : Int) (a1 : (List TEntry)) : Option ρ := (cond (g_spec_AreEntries a1) (cond (f_spec_AreEntries a1) (cond (g_spec_RootOf a1) (k ((f_spec_RootOf a1) == a0)) none) (k false)) none)
theorem ok_spec_CheckAll : OracOk Try.prog sigs O_spec_CheckAll := (orcX_ok rfl (fun d g => said_spec_RootOf d.1 g) (orcX_ok rfl (fun d g => said_spec_AreEntries d.1 g) nilO_ok))
def A_spec_CheckAll : Ann := fun b => ⟨[], []⟩
theorem aP_spec_CheckAll (f_spec_AreEntries : (List TEntry) → Bool) (g_spec_AreEntries : (List TEntry) → Bool) (f_spec_RootOf : (List TEntry) → Int) (g_spec_RootOf : (List TEntry) → Bool) (n : Nat) (a0 : Int) (a1 : (List TEntry)) : absF tab sigs (OP_spec_CheckAll f_spec_AreEntries g_spec_AreEntries f_spec_RootOf g_spec_RootOf) A_spec_CheckAll Try.f18 [(.bool, .no)] n [.val (.int .i64) a0, .val (.slice 31 (.pair .str (.pair (.int .i64) (.pair (.int .i64) (.slice 9 .str))))) a1] = spec_CheckAll_P f_spec_AreEntries g_spec_AreEntries f_spec_RootOf g_spec_RootOf (fun r0 => some [⟨.bool, r0⟩])  a0 a1 := by kernel_rfl
theorem a_spec_CheckAll (n : Nat) (a0 : Int) (a1 : (List TEntry)) : absF tab sigs O_spec_CheckAll A_spec_CheckAll Try.f18 [(.bool, .no)] n [.val (.int .i64) a0, .val (.slice 31 (.pair .str (.pair (.int .i64) (.pair (.int .i64) (.slice 9 .str))))) a1] = spec_CheckAll (fun r0 => some [⟨.bool, r0⟩])  a0 a1 := aP_spec_CheckAll N.spec_AreEntries G.spec_AreEntries N.spec_RootOf G.spec_RootOf n a0 a1
theorem said_spec_CheckAll (a0 : Int) (a1 : (List TEntry)) (g : G.spec_CheckAll a0 a1 = true) : Said Try.prog sigs_18 18 [.val (.int .i64) a0, .val (.slice 31 (.pair .str (.pair (.int .i64) (.pair (.int .i64) (.slice 9 .str))))) a1] [⟨.bool, N.spec_CheckAll a0 a1⟩] := said_len (T := tab) (A := A_spec_CheckAll) tabOk ok_spec_CheckAll tabOk.follows Try.func18 (by kernel_rfl) (by kernel_rfl) (fun hl => ⟨0, (a_spec_CheckAll 0 a0 a1).trans (spec_CheckAll_ok (ρ := Ret) (fun r0 => some [⟨.bool, r0⟩]) a0 a1 hl.2.1 g)⟩)
/-! internal.bytealg.CompareString -/
abbrev N.internal_bytealg_CompareString (a b : ByteArray) : Int := cmpStr a b
-- HAND
open Go.Proofs.Ythegggkfngnehaa in
theorem calls_cmp (a b : ByteArray) (w : World) : Calls Try.prog 118 #[.string a, .string b] w fun e w' => e = .returned (.int .i64 (Lib.compareBytes a.data.toList b.data.toList)) ∧ w' = w := by
  go_enter Try.func118, Try.ntmps118
  go_wp2
  rw [run_callFunc_extern Try.func124 (by kernel_rfl) (by kernel_rfl) (by kernel_rfl) (e := Extern.BytealgCompare.compare) (by kernel_rfl), Lib.run_compareString]
  simp only [Result.andThen]
  rw [Oper.upon_value]
  go_wp2
  go_ret
  exact ⟨rfl, rfl⟩
theorem said_internal_bytealg_CompareString (a0 a1 : ByteArray) : Said Try.prog sigs_118 118 [.val .str a0, .val .str a1] [⟨.int .i64, N.internal_bytealg_CompareString a0 a1⟩] :=
  said_int Try.func118 (by kernel_rfl) (by kernel_rfl) (fun w ok vs h => by
    obtain ⟨v0, vs0, rfl, h0, v1, vs1, rfl, h1, rfl⟩ := h
    rw [avr_str h0, avr_str h1, show N.internal_bytealg_CompareString a0 a1 = _ from (cmp_data a0 a1).symm]
    exact calls_cmp a0 a1 w)

/-! strings.Compare -/
abbrev N.strings_Compare (a b : ByteArray) : Int := cmpStr a b
def strings_Compare {ρ : Type} (k : Int → Option ρ) (a0 : ByteArray) (a1 : ByteArray) : Option ρ := (k (N.internal_bytealg_CompareString a0 a1))
theorem strings_Compare_ok {ρ : Type} (k : Int → Option ρ) (a0 : ByteArray) (a1 : ByteArray) : strings_Compare k  a0 a1 = k (N.strings_Compare a0 a1) := by
  rfl
def OP_strings_Compare (f_internal_bytealg_CompareString : ByteArray → ByteArray → Int) : Orac := (orcX 118 [.val .str, .val .str] (fun d => true) (fun d => [⟨(.int .i64), f_internal_bytealg_CompareString d.1 d.2.1⟩]) nilO)
def O_strings_Compare : Orac := OP_strings_Compare N.internal_bytealg_CompareString
def strings_Compare_P {ρ : Type} (f_internal_bytealg_CompareString : ByteArray → ByteArray → Int) (k : Int → Option ρ) (a0 : ByteArray) (a1 : ByteArray) : Option ρ := (k (f_internal_bytealg_CompareString a0 a1))
theorem ok_strings_Compare : OracOk Try.prog sigs O_strings_Compare := (orcX_ok rfl (fun d g => said_internal_bytealg_CompareString d.1 d.2.1) nilO_ok)
def A_strings_Compare : Ann := fun b => ⟨[], []⟩
theorem aP_strings_Compare (f_internal_bytealg_CompareString : ByteArray → ByteArray → Int) (n : Nat) (a0 : ByteArray) (a1 : ByteArray) : absF tab sigs (OP_strings_Compare f_internal_bytealg_CompareString) A_strings_Compare Try.f105 [((.int .i64), .no)] n [.val .str a0, .val .str a1] = strings_Compare_P f_internal_bytealg_CompareString (fun r0 => some [⟨(.int .i64), r0⟩])  a0 a1 := by kernel_rfl
theorem a_strings_Compare (n : Nat) (a0 : ByteArray) (a1 : ByteArray) : absF tab sigs O_strings_Compare A_strings_Compare Try.f105 [((.int .i64), .no)] n [.val .str a0, .val .str a1] = strings_Compare (fun r0 => some [⟨(.int .i64), r0⟩])  a0 a1 := aP_strings_Compare N.internal_bytealg_CompareString n a0 a1
theorem said_strings_Compare (a0 : ByteArray) (a1 : ByteArray) : Said Try.prog sigs_105 105 [.val .str a0, .val .str a1] [⟨(.int .i64), N.strings_Compare a0 a1⟩] := said_len (T := tab) (A := A_strings_Compare) tabOk ok_strings_Compare tabOk.follows Try.func105 (by kernel_rfl) (by kernel_rfl) (fun hl => ⟨0, (a_strings_Compare 0 a0 a1).trans (strings_Compare_ok (ρ := Ret) (fun r0 => some [⟨(.int .i64), r0⟩]) a0 a1)⟩)
/-! impl.CompareLabels -/
abbrev N.impl_CompareLabels (a b : ByteArray) : Int := cmpStr a b
def impl_CompareLabels {ρ : Type} (k : Int → Option ρ) (a0 : ByteArray) (a1 : ByteArray) : Option ρ := (k (N.strings_Compare a0 a1))
theorem impl_CompareLabels_ok {ρ : Type} (k : Int → Option ρ) (a0 : ByteArray) (a1 : ByteArray) : impl_CompareLabels k  a0 a1 = k (N.impl_CompareLabels a0 a1) := by
  rfl
def OP_impl_CompareLabels (f_strings_Compare : ByteArray → ByteArray → Int) : Orac := (orcX 105 [.val .str, .val .str] (fun d => true) (fun d => [⟨(.int .i64), f_strings_Compare d.1 d.2.1⟩]) nilO)
def O_impl_CompareLabels : Orac := OP_impl_CompareLabels N.strings_Compare
def impl_CompareLabels_P {ρ : Type} (f_strings_Compare : ByteArray → ByteArray → Int) (k : Int → Option ρ) (a0 : ByteArray) (a1 : ByteArray) : Option ρ := (k (f_strings_Compare a0 a1))
theorem ok_impl_CompareLabels : OracOk Try.prog sigs O_impl_CompareLabels := (orcX_ok rfl (fun d g => said_strings_Compare d.1 d.2.1) nilO_ok)
def A_impl_CompareLabels : Ann := fun b => ⟨[], []⟩
theorem aP_impl_CompareLabels (f_strings_Compare : ByteArray → ByteArray → Int) (n : Nat) (a0 : ByteArray) (a1 : ByteArray) : absF tab sigs (OP_impl_CompareLabels f_strings_Compare) A_impl_CompareLabels Try.f74 [((.int .i64), .no)] n [.val .str a0, .val .str a1] = impl_CompareLabels_P f_strings_Compare (fun r0 => some [⟨(.int .i64), r0⟩])  a0 a1 := by kernel_rfl
theorem a_impl_CompareLabels (n : Nat) (a0 : ByteArray) (a1 : ByteArray) : absF tab sigs O_impl_CompareLabels A_impl_CompareLabels Try.f74 [((.int .i64), .no)] n [.val .str a0, .val .str a1] = impl_CompareLabels (fun r0 => some [⟨(.int .i64), r0⟩])  a0 a1 := aP_impl_CompareLabels N.strings_Compare n a0 a1
theorem said_impl_CompareLabels (a0 : ByteArray) (a1 : ByteArray) : Said Try.prog sigs_74 74 [.val .str a0, .val .str a1] [⟨(.int .i64), N.impl_CompareLabels a0 a1⟩] := said_len (T := tab) (A := A_impl_CompareLabels) tabOk ok_impl_CompareLabels tabOk.follows Try.func74 (by kernel_rfl) (by kernel_rfl) (fun hl => ⟨0, (a_impl_CompareLabels 0 a0 a1).trans (impl_CompareLabels_ok (ρ := Ret) (fun r0 => some [⟨(.int .i64), r0⟩]) a0 a1)⟩)
/-! impl.AreEntries -/
abbrev G.impl_AreEntries (l : List TEntry) : Bool := decide (wEs l ≤ 1048576)
abbrev N.impl_AreEntries (l : List TEntry) : Bool := areEntries l
def impl_AreEntries_L0 {ρ : Type} (k : Bool → Option ρ) (L0 : (List TEntry) → (List TEntry) → Int → Int → Option ρ) (v0_0 : (List TEntry)) (v0_1 : (List TEntry)) (v0_2 : Int) (v0_3 : Int) : Option ρ := (cond (decide (v0_3 < v0_2)) (cond (inRange v0_3 (List.length v0_1)) (cond (G.impl_IsEntry (List.getD v0_1 (Int.toNat v0_3) (ByteArray.empty, ((0 : Int), ((0 : Int), []))))) (cond (!(N.impl_IsEntry (List.getD v0_1 (Int.toNat v0_3) (ByteArray.empty, ((0 : Int), ((0 : Int), [])))))) (k false) (cond (decide (v0_3 > (0 : Int))) (cond (inRange (IntKind.wrap .i64 (v0_3 - (1 : Int))) (List.length v0_0)) (cond (decide ((N.impl_CompareLabels (List.getD v0_1 (Int.toNat v0_3) (ByteArray.empty, ((0 : Int), ((0 : Int), [])))).1 (List.getD v0_0 (Int.toNat (IntKind.wrap .i64 (v0_3 - (1 : Int)))) (ByteArray.empty, ((0 : Int), ((0 : Int), [])))).1) ≤ (0 : Int))) (k false) (L0 v0_0 v0_1 v0_2 (IntKind.wrap .i64 (v0_3 + (1 : Int))))) none) (L0 v0_0 v0_1 v0_2 (IntKind.wrap .i64 (v0_3 + (1 : Int)))))) none) none) (k (decide ((List.length v0_0 : Int) ≤ (12 : Int)))))
def impl_AreEntries {ρ : Type} (k : Bool → Option ρ) (L0 : (List TEntry) → (List TEntry) → Int → Int → Option ρ) (a0 : (List TEntry)) : Option ρ := (L0 a0 a0 (List.length a0 : Int) (0 : Int))
theorem impl_AreEntries_ok {ρ : Type} (k : Bool → Option ρ) (a0 : (List TEntry)) (l_a0 : lnL (fun y => (True ∧ (True ∧ (True ∧ lnL (fun _ => True) y.2.2.2)))) a0) (g : G.impl_AreEntries a0 = true) : ∃ n0, ∀ n, n0 ≤ n → ∀ (L0 : Nat → (List TEntry) → (List TEntry) → Int → Int → Option ρ) (h0 : ∀ ( m : Nat) (v0_0 : (List TEntry)) (v0_1 : (List TEntry)) (v0_2 : Int) (v0_3 : Int), L0 (m + 1) v0_0 v0_1 v0_2 v0_3 = impl_AreEntries_L0 k (L0 m) v0_0 v0_1 v0_2 v0_3), impl_AreEntries k (L0 n) a0 = k (N.impl_AreEntries a0) := by
  unfold G.impl_AreEntries at g
  have hw : wEs a0 ≤ 1048576 := of_decide_eq_true g
  have hl : a0.length ≤ 1048576 := by unfold wEs at hw; omega
  refine ⟨a0.length + 1, fun n hn L0 h0 => ?_⟩
  have hrun := raw_run0 (σ := Unit) (s := ()) (L := fun m i _ => L0 m a0 a0 (a0.length : Int) i) (R := fun i _ c => impl_AreEntries_L0 k (fun _ _ _ i => c i ()) a0 a0 (a0.length : Int) i) (fun m i s => h0 m a0 a0 (a0.length : Int) i) a0.length (fun _ _ => True) (fun j _ => cond (areFrom a0 (a0.length - j) j) (k (decide (a0.length ≤ 12))) (k false)) (fun j s c hj _ hc => ?_) (fun s c _ => ?_) hn trivial
  · refine hrun.trans ?_
    show _ = k (areFrom a0 a0.length 0 && decide (a0.length ≤ 12))
    rw [Nat.sub_zero]
    cases areFrom a0 a0.length 0 <;> rfl
  · obtain ⟨m, hm⟩ : ∃ m, a0.length - j = m + 1 := ⟨a0.length - j - 1, by omega⟩
    have hm2 : a0.length - (j + 1) = m := by omega
    have hc' := hc () trivial
    rw [hm2] at hc'
    have hmem := wEs_mem (getD_mem (d := (ByteArray.empty, (0, (0, [])))) hj)
    have g2 : decide (wE (a0.getD j (ByteArray.empty, (0, (0, [])))) ≤ 1048576) = true := by simp only [decide_eq_true_eq]; omega
    rw [hm]
    unfold areFrom
    by_cases h0j : j = 0
    · subst h0j
      simp only [impl_AreEntries_L0, lt_nat, inRange_nat, decide_eq_true hj, cond_true, Int.toNat_natCast, G.impl_IsEntry, N.impl_IsEntry, g2, wrap_succ (j := 0) (by unfold big; omega), hc']
      cases isEntry (a0.getD 0 (ByteArray.empty, (0, (0, [])))) <;> simp
    · have e1 : decide ((j : Int) > 0) = true := by simp; omega
      have e2 : IntKind.wrap .i64 ((j : Int) - 1) = ((j - 1 : Nat) : Int) := by rw [wrap_id (by omega) (by omega)]; omega
      have e3 : j - 1 < a0.length := by omega
      simp only [impl_AreEntries_L0, lt_nat, inRange_nat, decide_eq_true hj, cond_true, Int.toNat_natCast, G.impl_IsEntry, N.impl_IsEntry, N.impl_CompareLabels, g2, e1, e2, decide_eq_true e3, wrap_succ (j := j) (by unfold big; omega), hc', decide_eq_false h0j, cmpStr_swap]
      cases isEntry (a0.getD j (ByteArray.empty, (0, (0, [])))) <;> cases cmpStr (a0.getD (j - 1) (ByteArray.empty, (0, (0, [])))).1 (a0.getD j (ByteArray.empty, (0, (0, [])))).1 == -1 <;> simp
  · have e1 : decide ((a0.length : Int) ≤ 12) = decide (a0.length ≤ 12) := by simp only [decide_eq_decide]; omega
    rw [Nat.sub_self]
    simp [impl_AreEntries_L0, areFrom, e1]
def OP_impl_AreEntries (f_impl_IsEntry : TEntry → Bool) (g_impl_IsEntry : TEntry → Bool) (f_impl_CompareLabels : ByteArray → ByteArray → Int) : Orac := (orcX 74 [.val .str, .val .str] (fun d => true) (fun d => [⟨(.int .i64), f_impl_CompareLabels d.1 d.2.1⟩]) (orcX 49 [.val (.pair .str (.pair (.int .i64) (.pair (.int .i64) (.slice 9 .str))))] (fun d => g_impl_IsEntry d.1) (fun d => [⟨.bool, f_impl_IsEntry d.1⟩]) nilO))
def O_impl_AreEntries : Orac := OP_impl_AreEntries N.impl_IsEntry G.impl_IsEntry N.impl_CompareLabels
def impl_AreEntries_P_L0 {ρ : Type} (f_impl_IsEntry : TEntry → Bool) (g_impl_IsEntry : TEntry → Bool) (f_impl_CompareLabels : ByteArray → ByteArray → Int) (k : Bool → Option ρ) (L0 : (List TEntry) → (List TEntry) → Int → Int → Option ρ) (v0_0 : (List TEntry)) (v0_1 : (List TEntry)) (v0_2 : Int) (v0_3 : Int) : Option ρ := (cond (decide (v0_3 < v0_2)) (cond (inRange v0_3 (List.length v0_1)) (cond (g_impl_IsEntry (List.getD v0_1 (Int.toNat v0_3) (ByteArray.empty, ((0 : Int), ((0 : Int), []))))) (cond (!(f_impl_IsEntry (List.getD v0_1 (Int.toNat v0_3) (ByteArray.empty, ((0 : Int), ((0 : Int), [])))))) (k false) (cond (decide (v0_3 > (0 : Int))) (cond (inRange (IntKind.wrap .i64 (v0_3 - (1 : Int))) (List.length v0_0)) (cond (decide ((f_impl_CompareLabels (List.getD v0_1 (Int.toNat v0_3) (ByteArray.empty, ((0 : Int), ((0 : Int), [])))).1 (List.getD v0_0 (Int.toNat (IntKind.wrap .i64 (v0_3 - (1 : Int)))) (ByteArray.empty, ((0 : Int), ((0 : Int), [])))).1) ≤ (0 : Int))) (k false) (L0 v0_0 v0_1 v0_2 (IntKind.wrap .i64 (v0_3 + (1 : Int))))) none) (L0 v0_0 v0_1 v0_2 (IntKind.wrap .i64 (v0_3 + (1 : Int)))))) none) none) (k (decide ((List.length v0_0 : Int) ≤ (12 : Int)))))
def impl_AreEntries_P {ρ : Type} (f_impl_IsEntry : TEntry → Bool) (g_impl_IsEntry : TEntry → Bool) (f_impl_CompareLabels : ByteArray → ByteArray → Int) (k : Bool → Option ρ) (L0 : (List TEntry) → (List TEntry) → Int → Int → Option ρ) (a0 : (List TEntry)) : Option ρ := (L0 a0 a0 (List.length a0 : Int) (0 : Int))
theorem ok_impl_AreEntries : OracOk Try.prog sigs O_impl_AreEntries := (orcX_ok rfl (fun d g => said_impl_CompareLabels d.1 d.2.1) (orcX_ok rfl (fun d g => said_impl_IsEntry d.1 g) nilO_ok))
def A_impl_AreEntries : Ann := fun b => cond (Nat.beq b 0) ⟨[(0, false), (5, false), (6, false), (7, false)], []⟩ (⟨[], []⟩)
def S_impl_AreEntries_0 (v0_0 : (List TEntry)) (v0_1 : (List TEntry)) (v0_2 : Int) (v0_3 : Int) : St := [(kT 0, some (.tv (.v (.slice 31 (.pair .str (.pair (.int .i64) (.pair (.int .i64) (.slice 9 .str))))) v0_0 .no))), (kT 5, some (.tv (.v (.slice 31 (.pair .str (.pair (.int .i64) (.pair (.int .i64) (.slice 9 .str))))) v0_1 .no))), (kT 6, some (.tv (.v (.int .i64) v0_2 .no))), (kT 7, some (.tv (.v (.int .i64) v0_3 .no)))]
noncomputable def L_P_impl_AreEntries_0 (f_impl_IsEntry : TEntry → Bool) (g_impl_IsEntry : TEntry → Bool) (f_impl_CompareLabels : ByteArray → ByteArray → Int) (n m : Nat) : St → Option Ret := loopOf tab sigs (OP_impl_AreEntries f_impl_IsEntry g_impl_IsEntry f_impl_CompareLabels) A_impl_AreEntries Try.f55 [(.bool, .no)] n (fun _ => 0) 0 m
noncomputable def L_impl_AreEntries_0 (n m : Nat) : St → Option Ret := L_P_impl_AreEntries_0 N.impl_IsEntry G.impl_IsEntry N.impl_CompareLabels n m
theorem bP_impl_AreEntries_0 (f_impl_IsEntry : TEntry → Bool) (g_impl_IsEntry : TEntry → Bool) (f_impl_CompareLabels : ByteArray → ByteArray → Int) (n m : Nat) (v0_0 : (List TEntry)) (v0_1 : (List TEntry)) (v0_2 : Int) (v0_3 : Int) : L_P_impl_AreEntries_0 f_impl_IsEntry g_impl_IsEntry f_impl_CompareLabels n (m + 1) (S_impl_AreEntries_0 v0_0 v0_1 v0_2 v0_3) = impl_AreEntries_P_L0 f_impl_IsEntry g_impl_IsEntry f_impl_CompareLabels (fun r0 => some [⟨.bool, r0⟩]) (fun v0_0 v0_1 v0_2 v0_3 => L_P_impl_AreEntries_0 f_impl_IsEntry g_impl_IsEntry f_impl_CompareLabels n m (S_impl_AreEntries_0 v0_0 v0_1 v0_2 v0_3)) v0_0 v0_1 v0_2 v0_3 := by kernel_rfl
theorem b_impl_AreEntries_0 (n m : Nat) (v0_0 : (List TEntry)) (v0_1 : (List TEntry)) (v0_2 : Int) (v0_3 : Int) : L_impl_AreEntries_0 n (m + 1) (S_impl_AreEntries_0 v0_0 v0_1 v0_2 v0_3) = impl_AreEntries_L0 (fun r0 => some [⟨.bool, r0⟩]) (fun v0_0 v0_1 v0_2 v0_3 => L_impl_AreEntries_0 n m (S_impl_AreEntries_0 v0_0 v0_1 v0_2 v0_3)) v0_0 v0_1 v0_2 v0_3 := bP_impl_AreEntries_0 N.impl_IsEntry G.impl_IsEntry N.impl_CompareLabels n m v0_0 v0_1 v0_2 v0_3
theorem aP_impl_AreEntries (f_impl_IsEntry : TEntry → Bool) (g_impl_IsEntry : TEntry → Bool) (f_impl_CompareLabels : ByteArray → ByteArray → Int) (n : Nat) (a0 : (List TEntry)) : absF tab sigs (OP_impl_AreEntries f_impl_IsEntry g_impl_IsEntry f_impl_CompareLabels) A_impl_AreEntries Try.f55 [(.bool, .no)] n [.val (.slice 31 (.pair .str (.pair (.int .i64) (.pair (.int .i64) (.slice 9 .str))))) a0] = impl_AreEntries_P f_impl_IsEntry g_impl_IsEntry f_impl_CompareLabels (fun r0 => some [⟨.bool, r0⟩]) (fun v0_0 v0_1 v0_2 v0_3 => L_P_impl_AreEntries_0 f_impl_IsEntry g_impl_IsEntry f_impl_CompareLabels n n (S_impl_AreEntries_0 v0_0 v0_1 v0_2 v0_3)) a0 := by kernel_rfl
theorem a_impl_AreEntries (n : Nat) (a0 : (List TEntry)) : absF tab sigs O_impl_AreEntries A_impl_AreEntries Try.f55 [(.bool, .no)] n [.val (.slice 31 (.pair .str (.pair (.int .i64) (.pair (.int .i64) (.slice 9 .str))))) a0] = impl_AreEntries (fun r0 => some [⟨.bool, r0⟩]) (fun v0_0 v0_1 v0_2 v0_3 => L_impl_AreEntries_0 n n (S_impl_AreEntries_0 v0_0 v0_1 v0_2 v0_3)) a0 := aP_impl_AreEntries N.impl_IsEntry G.impl_IsEntry N.impl_CompareLabels n a0
theorem said_impl_AreEntries (a0 : (List TEntry)) (g : G.impl_AreEntries a0 = true) : Said Try.prog sigs_55 55 [.val (.slice 31 (.pair .str (.pair (.int .i64) (.pair (.int .i64) (.slice 9 .str))))) a0] [⟨.bool, N.impl_AreEntries a0⟩] := said_len (T := tab) (A := A_impl_AreEntries) tabOk ok_impl_AreEntries tabOk.follows Try.func55 (by kernel_rfl) (by kernel_rfl) (fun hl => let ⟨n, hn⟩ := impl_AreEntries_ok (ρ := Ret) (fun r0 => some [⟨.bool, r0⟩]) a0 hl.1 g; ⟨n, (a_impl_AreEntries n a0).trans (hn n (Nat.le_refl n) (fun  m v0_0 v0_1 v0_2 v0_3 => L_impl_AreEntries_0 n  m (S_impl_AreEntries_0 v0_0 v0_1 v0_2 v0_3)) (fun  m v0_0 v0_1 v0_2 v0_3 => b_impl_AreEntries_0 n  m v0_0 v0_1 v0_2 v0_3))⟩)
/-! impl.LeavesOf -/
abbrev G.impl_LeavesOf (l : List TEntry) : Bool := decide (wEs l ≤ 1048576)
abbrev N.impl_LeavesOf (l : List TEntry) : List Int := l.map leafOf
def impl_LeavesOf_L0 {ρ : Type} (k : (List Int) → Option ρ) (L0 : (List TEntry) → Int → Int → (List Int) → Option ρ) (v0_0 : (List TEntry)) (v0_1 : Int) (v0_2 : Int) (v0_3 : (List Int)) : Option ρ := (cond (decide (v0_2 < v0_1)) (cond (inRange v0_2 (List.length v0_0)) (cond (G.impl_LeafOf (List.getD v0_0 (Int.toNat v0_2) (ByteArray.empty, ((0 : Int), ((0 : Int), []))))) (cond (fit (List.length v0_3) (List.length [(N.impl_LeafOf (List.getD v0_0 (Int.toNat v0_2) (ByteArray.empty, ((0 : Int), ((0 : Int), [])))))])) (L0 v0_0 v0_1 (IntKind.wrap .i64 (v0_2 + (1 : Int))) (List.append v0_3 [(N.impl_LeafOf (List.getD v0_0 (Int.toNat v0_2) (ByteArray.empty, ((0 : Int), ((0 : Int), [])))))])) none) none) none) (k v0_3))
def impl_LeavesOf {ρ : Type} (k : (List Int) → Option ρ) (L0 : (List TEntry) → Int → Int → (List Int) → Option ρ) (a0 : (List TEntry)) : Option ρ := (L0 a0 (List.length a0 : Int) (0 : Int) [])
theorem impl_LeavesOf_ok {ρ : Type} (k : (List Int) → Option ρ) (a0 : (List TEntry)) (l_a0 : lnL (fun y => (True ∧ (True ∧ (True ∧ lnL (fun _ => True) y.2.2.2)))) a0) (g : G.impl_LeavesOf a0 = true) : ∃ n0, ∀ n, n0 ≤ n → ∀ (L0 : Nat → (List TEntry) → Int → Int → (List Int) → Option ρ) (h0 : ∀ ( m : Nat) (v0_0 : (List TEntry)) (v0_1 : Int) (v0_2 : Int) (v0_3 : (List Int)), L0 (m + 1) v0_0 v0_1 v0_2 v0_3 = impl_LeavesOf_L0 k (L0 m) v0_0 v0_1 v0_2 v0_3), impl_LeavesOf k (L0 n) a0 = k (N.impl_LeavesOf a0) := by
  unfold G.impl_LeavesOf at g
  have hw : wEs a0 ≤ 1048576 := of_decide_eq_true g
  have hl : a0.length ≤ 1048576 := by unfold wEs at hw; omega
  refine ⟨a0.length + 1, fun n hn L0 h0 => ?_⟩
  refine raw_map (a := a0) (ByteArray.empty, (0, (0, []))) leafOf 1048576 (k := k) (L := fun m i out => L0 m a0 (a0.length : Int) i out) (R := fun i out c => impl_LeavesOf_L0 k (fun _ _ i out => c i out) a0 (a0.length : Int) i out) (fun m i s => h0 m a0 (a0.length : Int) i s) (fun j out c hj ho => ?_) (fun out c => ?_) hl hn
  · have hm := wEs_mem (getD_mem (d := (ByteArray.empty, (0, (0, [])))) hj)
    have g2 : decide (wE (a0.getD j (ByteArray.empty, (0, (0, [])))) ≤ 1048576) = true := by simp only [decide_eq_true_eq]; omega
    have e3 : fit out.length 1 = true := fit_of (by omega)
    simp only [impl_LeavesOf_L0, lt_nat, inRange_nat, decide_eq_true hj, cond_true, Int.toNat_natCast, G.impl_LeafOf, g2, List.length_singleton, e3, wrap_succ (j := j) (by unfold big; omega), List.append_eq]
  · simp [impl_LeavesOf_L0]
def OP_impl_LeavesOf (f_impl_LeafOf : TEntry → Int) (g_impl_LeafOf : TEntry → Bool) : Orac := (orcX 48 [.val (.pair .str (.pair (.int .i64) (.pair (.int .i64) (.slice 9 .str))))] (fun d => g_impl_LeafOf d.1) (fun d => [⟨(.int .i64), f_impl_LeafOf d.1⟩]) nilO)
def O_impl_LeavesOf : Orac := OP_impl_LeavesOf N.impl_LeafOf G.impl_LeafOf
def impl_LeavesOf_P_L0 {ρ : Type} (f_impl_LeafOf : TEntry → Int) (g_impl_LeafOf : TEntry → Bool) (k : (List Int) → Option ρ) (L0 : (List TEntry) → Int → Int → (List Int) → Option ρ) (v0_0 : (List TEntry)) (v0_1 : Int) (v0_2 : Int) (v0_3 : (List Int)) : Option ρ := (cond (decide (v0_2 < v0_1)) (cond (inRange v0_2 (List.length v0_0)) (cond (g_impl_LeafOf (List.getD v0_0 (Int.toNat v0_2) (ByteArray.empty, ((0 : Int), ((0 : Int), []))))) (cond (fit (List.length v0_3) (List.length [(f_impl_LeafOf (List.getD v0_0 (Int.toNat v0_2) (ByteArray.empty, ((0 : Int), ((0 : Int), [])))))])) (L0 v0_0 v0_1 (IntKind.wrap .i64 (v0_2 + (1 : Int))) (List.append v0_3 [(f_impl_LeafOf (List.getD v0_0 (Int.toNat v0_2) (ByteArray.empty, ((0 : Int), ((0 : Int), [])))))])) none) none) none) (k v0_3))
def impl_LeavesOf_P {ρ : Type} (f_impl_LeafOf : TEntry → Int) (g_impl_LeafOf : TEntry → Bool) (k : (List Int) → Option ρ) (L0 : (List TEntry) → Int → Int → (List Int) → Option ρ) (a0 : (List TEntry)) : Option ρ := (L0 a0 (List.length a0 : Int) (0 : Int) [])
theorem ok_impl_LeavesOf : OracOk Try.prog sigs O_impl_LeavesOf := (orcX_ok rfl (fun d g => said_impl_LeafOf d.1 g) nilO_ok)
def A_impl_LeavesOf : Ann := fun b => cond (Nat.beq b 0) ⟨[(3, true), (7, false), (8, false), (9, false)], []⟩ (⟨[], []⟩)
def S_impl_LeavesOf_0 (v0_0 : (List TEntry)) (v0_1 : Int) (v0_2 : Int) (v0_3 : (List Int)) : St := [(kT 3, some (.tv (.v (.slice 3 (.int .i64)) [] (.own 24)))), (kT 7, some (.tv (.v (.slice 31 (.pair .str (.pair (.int .i64) (.pair (.int .i64) (.slice 9 .str))))) v0_0 .no))), (kT 8, some (.tv (.v (.int .i64) v0_1 .no))), (kT 9, some (.tv (.v (.int .i64) v0_2 .no))), (kR 24, some (.row 3 (.int .i64) v0_3))]
noncomputable def L_P_impl_LeavesOf_0 (f_impl_LeafOf : TEntry → Int) (g_impl_LeafOf : TEntry → Bool) (n m : Nat) : St → Option Ret := loopOf tab sigs (OP_impl_LeavesOf f_impl_LeafOf g_impl_LeafOf) A_impl_LeavesOf Try.f62 [((.slice 3 (.int .i64)), (.own 0))] n (fun _ => 0) 0 m
noncomputable def L_impl_LeavesOf_0 (n m : Nat) : St → Option Ret := L_P_impl_LeavesOf_0 N.impl_LeafOf G.impl_LeafOf n m
theorem bP_impl_LeavesOf_0 (f_impl_LeafOf : TEntry → Int) (g_impl_LeafOf : TEntry → Bool) (n m : Nat) (v0_0 : (List TEntry)) (v0_1 : Int) (v0_2 : Int) (v0_3 : (List Int)) : L_P_impl_LeavesOf_0 f_impl_LeafOf g_impl_LeafOf n (m + 1) (S_impl_LeavesOf_0 v0_0 v0_1 v0_2 v0_3) = impl_LeavesOf_P_L0 f_impl_LeafOf g_impl_LeafOf (fun r0 => some [⟨(.slice 3 (.int .i64)), r0⟩]) (fun v0_0 v0_1 v0_2 v0_3 => L_P_impl_LeavesOf_0 f_impl_LeafOf g_impl_LeafOf n m (S_impl_LeavesOf_0 v0_0 v0_1 v0_2 v0_3)) v0_0 v0_1 v0_2 v0_3 := by kernel_rfl
theorem b_impl_LeavesOf_0 (n m : Nat) (v0_0 : (List TEntry)) (v0_1 : Int) (v0_2 : Int) (v0_3 : (List Int)) : L_impl_LeavesOf_0 n (m + 1) (S_impl_LeavesOf_0 v0_0 v0_1 v0_2 v0_3) = impl_LeavesOf_L0 (fun r0 => some [⟨(.slice 3 (.int .i64)), r0⟩]) (fun v0_0 v0_1 v0_2 v0_3 => L_impl_LeavesOf_0 n m (S_impl_LeavesOf_0 v0_0 v0_1 v0_2 v0_3)) v0_0 v0_1 v0_2 v0_3 := bP_impl_LeavesOf_0 N.impl_LeafOf G.impl_LeafOf n m v0_0 v0_1 v0_2 v0_3
theorem aP_impl_LeavesOf (f_impl_LeafOf : TEntry → Int) (g_impl_LeafOf : TEntry → Bool) (n : Nat) (a0 : (List TEntry)) : absF tab sigs (OP_impl_LeavesOf f_impl_LeafOf g_impl_LeafOf) A_impl_LeavesOf Try.f62 [((.slice 3 (.int .i64)), (.own 0))] n [.val (.slice 31 (.pair .str (.pair (.int .i64) (.pair (.int .i64) (.slice 9 .str))))) a0] = impl_LeavesOf_P f_impl_LeafOf g_impl_LeafOf (fun r0 => some [⟨(.slice 3 (.int .i64)), r0⟩]) (fun v0_0 v0_1 v0_2 v0_3 => L_P_impl_LeavesOf_0 f_impl_LeafOf g_impl_LeafOf n n (S_impl_LeavesOf_0 v0_0 v0_1 v0_2 v0_3)) a0 := by kernel_rfl
theorem a_impl_LeavesOf (n : Nat) (a0 : (List TEntry)) : absF tab sigs O_impl_LeavesOf A_impl_LeavesOf Try.f62 [((.slice 3 (.int .i64)), (.own 0))] n [.val (.slice 31 (.pair .str (.pair (.int .i64) (.pair (.int .i64) (.slice 9 .str))))) a0] = impl_LeavesOf (fun r0 => some [⟨(.slice 3 (.int .i64)), r0⟩]) (fun v0_0 v0_1 v0_2 v0_3 => L_impl_LeavesOf_0 n n (S_impl_LeavesOf_0 v0_0 v0_1 v0_2 v0_3)) a0 := aP_impl_LeavesOf N.impl_LeafOf G.impl_LeafOf n a0
theorem said_impl_LeavesOf (a0 : (List TEntry)) (g : G.impl_LeavesOf a0 = true) : Said Try.prog sigs_62 62 [.val (.slice 31 (.pair .str (.pair (.int .i64) (.pair (.int .i64) (.slice 9 .str))))) a0] [⟨(.slice 3 (.int .i64)), N.impl_LeavesOf a0⟩] := said_len (T := tab) (A := A_impl_LeavesOf) tabOk ok_impl_LeavesOf tabOk.follows Try.func62 (by kernel_rfl) (by kernel_rfl) (fun hl => let ⟨n, hn⟩ := impl_LeavesOf_ok (ρ := Ret) (fun r0 => some [⟨(.slice 3 (.int .i64)), r0⟩]) a0 hl.1 g; ⟨n, (a_impl_LeavesOf n a0).trans (hn n (Nat.le_refl n) (fun  m v0_0 v0_1 v0_2 v0_3 => L_impl_LeavesOf_0 n  m (S_impl_LeavesOf_0 v0_0 v0_1 v0_2 v0_3)) (fun  m v0_0 v0_1 v0_2 v0_3 => b_impl_LeavesOf_0 n  m v0_0 v0_1 v0_2 v0_3))⟩)
end Go.Proofs.Ythegggkfngnehaa.Ref
