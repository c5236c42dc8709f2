/- Functions of the program: what each computes, and that it does so.
   Conditions: as each theorem states. -/
import Derived.Test.YteaahdhmhbmdgaaSA
set_option linter.unusedVariables false
set_option linter.unusedSimpArgs false
set_option maxRecDepth 100000
namespace Go.Proofs.Yteaahdhmhbmdgaa.Ref
open Go.RowKit Go.Proofs.YteaahdhmhbmdgaaW.PrintWords Go.Proofs.YteaahdhmhbmdgaaW.PrintLast
/-! laws.szIntS -/
abbrev G.laws_szIntS (a : List Int) (left : Int) : Bool := gL left
abbrev N.laws_szIntS (a : List Int) (left : Int) : Int := sub1 a.length left
def laws_szIntS {ρ : Type} (k : Int → Option ρ) (a0 : (List Int)) (a1 : Int) : Option ρ := (cond (decide ((IntKind.wrap .i64 (a1 - (List.length a0 : Int))) < (0 : Int))) (k (-1 : Int)) (k (IntKind.wrap .i64 (a1 - (List.length a0 : Int)))))
theorem laws_szIntS_ok {ρ : Type} (k : Int → Option ρ) (a0 : (List Int)) (a1 : Int) (l_a0 : lnL (fun _ => True) a0) (g : G.laws_szIntS a0 a1 = true) : laws_szIntS k  a0 a1 = k (N.laws_szIntS a0 a1) := by
  unfold G.laws_szIntS at g
  exact sz_first (v := 0) (c := k) g l_a0.1 (fun g' => by
    have : 0 ≤ sub1 a0.length a1 := of_decide_eq_true ((Bool.and_eq_true _ _).mp g').1
    rw [sub1_pos (w := 0) (by omega)]
    simp)
def O_laws_szIntS : Orac := nilO
theorem ok_laws_szIntS : OracOk Try.prog sigs O_laws_szIntS := nilO_ok
def A_laws_szIntS : Ann := fun b => ⟨[], []⟩
theorem a_laws_szIntS (n : Nat) (a0 : (List Int)) (a1 : Int) : absF tab sigs O_laws_szIntS A_laws_szIntS Try.f34 [((.int .i64), .no)] n [.val (.slice 3 (.int .i64)) a0, .val (.int .i64) a1] = laws_szIntS (fun r0 => some [⟨(.int .i64), r0⟩])  a0 a1 := by kernel_rfl
theorem said_laws_szIntS (a0 : (List Int)) (a1 : Int) (g : G.laws_szIntS a0 a1 = true) : Said Try.prog sigs_34 34 [.val (.slice 3 (.int .i64)) a0, .val (.int .i64) a1] [⟨(.int .i64), N.laws_szIntS a0 a1⟩] := said_len (T := tab) (A := A_laws_szIntS) tabOk ok_laws_szIntS tabOk.follows Try.func34 (by kernel_rfl) (by kernel_rfl) (fun hl => ⟨0, (a_laws_szIntS 0 a0 a1).trans (laws_szIntS_ok (ρ := Ret) (fun r0 => some [⟨(.int .i64), r0⟩]) a0 a1 hl.1 g)⟩)
/-! laws.szProof -/
abbrev G.laws_szProof (a : TProof) (left : Int) : Bool := gL left
abbrev N.laws_szProof (a : TProof) (left : Int) : Int := sub1 (wPr a) left
def laws_szProof {ρ : Type} (k : Int → Option ρ) (a0 : TProof) (a1 : Int) : Option ρ := (cond (G.laws_szIntS a0.2 a1) (cond (decide ((N.laws_szIntS a0.2 a1) < (0 : Int))) (k (-1 : Int)) (k (N.laws_szIntS a0.2 a1))) none)
theorem laws_szProof_ok {ρ : Type} (k : Int → Option ρ) (a0 : TProof) (a1 : Int) (l_a0 : (True ∧ lnL (fun _ => True) a0.2)) (g : G.laws_szProof a0 a1 = true) : laws_szProof k  a0 a1 = k (N.laws_szProof a0 a1) := by
  unfold G.laws_szProof at g
  show cond (gL a1) _ none = _
  rw [g]
  exact sz_last
def O_laws_szProof : Orac := (orcX 34 [.val (.slice 3 (.int .i64)), .val (.int .i64)] (fun d => G.laws_szIntS d.1 d.2.1) (fun d => [⟨(.int .i64), N.laws_szIntS d.1 d.2.1⟩]) nilO)
theorem ok_laws_szProof : OracOk Try.prog sigs O_laws_szProof := (orcX_ok rfl (fun d g => said_laws_szIntS d.1 d.2.1 g) nilO_ok)
def A_laws_szProof : Ann := fun b => ⟨[], []⟩
theorem a_laws_szProof (n : Nat) (a0 : TProof) (a1 : Int) : absF tab sigs O_laws_szProof A_laws_szProof Try.f9 [((.int .i64), .no)] n [.val (.pair (.int .i64) (.slice 3 (.int .i64))) a0, .val (.int .i64) a1] = laws_szProof (fun r0 => some [⟨(.int .i64), r0⟩])  a0 a1 := by kernel_rfl
theorem said_laws_szProof (a0 : TProof) (a1 : Int) (g : G.laws_szProof a0 a1 = true) : Said Try.prog sigs_9 9 [.val (.pair (.int .i64) (.slice 3 (.int .i64))) a0, .val (.int .i64) a1] [⟨(.int .i64), N.laws_szProof a0 a1⟩] := said_len (T := tab) (A := A_laws_szProof) tabOk ok_laws_szProof tabOk.follows Try.func9 (by kernel_rfl) (by kernel_rfl) (fun hl => ⟨0, (a_laws_szProof 0 a0 a1).trans (laws_szProof_ok (ρ := Ret) (fun r0 => some [⟨(.int .i64), r0⟩]) a0 a1 hl.1 g)⟩)
/-! laws.toIntS -/
abbrev G.laws_toIntS (a : List Int) : Bool := decide (a.length ≤ 1048576)
abbrev N.laws_toIntS (a : List Int) : List Int := a
def laws_toIntS_L0 {ρ : Type} (k : (List Int) → Option ρ) (L0 : (List Int) → Int → (List Int) → Option ρ) (v0_0 : (List Int)) (v0_1 : Int) (v0_2 : (List Int)) : Option ρ := (cond (decide (v0_1 < (List.length v0_0 : Int))) (cond (inRange v0_1 (List.length v0_0)) (cond (inRange v0_1 (List.length v0_2)) (cond (inRange v0_1 (List.length v0_2)) (L0 v0_0 (IntKind.wrap .i64 (v0_1 + (1 : Int))) (List.set v0_2 (Int.toNat v0_1) (List.getD v0_0 (Int.toNat v0_1) (0 : Int)))) none) none) none) (k v0_2))
def laws_toIntS {ρ : Type} (k : (List Int) → Option ρ) (L0 : (List Int) → Int → (List Int) → Option ρ) (a0 : (List Int)) : Option ρ := (cond (decide (0 ≤ (List.length a0 : Int)) && decide ((List.length a0 : Int) ≤ 1099511627776)) (L0 a0 (0 : Int) (List.replicate (Int.toNat (List.length a0 : Int)) (0 : Int))) none)
theorem laws_toIntS_ok {ρ : Type} (k : (List Int) → Option ρ) (a0 : (List Int)) (l_a0 : lnL (fun _ => True) a0) (g : G.laws_toIntS a0 = true) : ∃ n0, ∀ n, n0 ≤ n → ∀ (L0 : Nat → (List Int) → Int → (List Int) → Option ρ) (h0 : ∀ ( m : Nat) (v0_0 : (List Int)) (v0_1 : Int) (v0_2 : (List Int)), L0 (m + 1) v0_0 v0_1 v0_2 = laws_toIntS_L0 k (L0 m) v0_0 v0_1 v0_2), laws_toIntS k (L0 n) a0 = k (N.laws_toIntS a0) := by
  unfold G.laws_toIntS at g
  refine ⟨a0.length + 1, fun n hn L0 h0 => ?_⟩
  have g' : a0.length ≤ 1048576 := by simpa using g
  have hg : (decide (0 ≤ (a0.length : Int)) && decide ((a0.length : Int) ≤ 1099511627776)) = true := by simp; omega
  show cond _ _ none = _
  rw [hg]
  refine (raw_copy (a := a0) 0 0 (fun x => x) (k := k) (L := fun m i out => L0 m a0 i out) (R := fun i out c => laws_toIntS_L0 k (fun _ i out => c i out) a0 i out) (fun m i s => h0 m a0 i s) (fun j out c hj hl => ?_) (fun s c => ?_) hn).trans (by simp)
  · simp [laws_toIntS_L0, lt_nat, inRange_nat, hj, hl, wrap_succ (j := j) (by unfold big; omega)]
  · simp [laws_toIntS_L0]
def O_laws_toIntS : Orac := nilO
theorem ok_laws_toIntS : OracOk Try.prog sigs O_laws_toIntS := nilO_ok
def A_laws_toIntS : Ann := fun b => cond (Nat.beq b 0) ⟨[(0, false), (3, true), (4, false)], []⟩ (⟨[], []⟩)
def S_laws_toIntS_0 (v0_0 : (List Int)) (v0_1 : Int) (v0_2 : (List Int)) : St := [(kT 0, some (.tv (.v (.slice 3 (.int .i64)) v0_0 .no))), (kT 3, some (.tv (.v (.slice 3 (.int .i64)) [] (.own 24)))), (kT 4, some (.tv (.v (.int .i64) v0_1 .no))), (kR 24, some (.row 3 (.int .i64) v0_2))]
noncomputable def L_laws_toIntS_0 (n m : Nat) : St → Option Ret := loopOf tab sigs O_laws_toIntS A_laws_toIntS Try.f15 [((.slice 3 (.int .i64)), (.own 0))] n (fun _ => 0) 0 m
theorem b_laws_toIntS_0 (n m : Nat) (v0_0 : (List Int)) (v0_1 : Int) (v0_2 : (List Int)) : L_laws_toIntS_0 n (m + 1) (S_laws_toIntS_0 v0_0 v0_1 v0_2) = laws_toIntS_L0 (fun r0 => some [⟨(.slice 3 (.int .i64)), r0⟩]) (fun v0_0 v0_1 v0_2 => L_laws_toIntS_0 n m (S_laws_toIntS_0 v0_0 v0_1 v0_2)) v0_0 v0_1 v0_2 := by kernel_rfl
theorem a_laws_toIntS (n : Nat) (a0 : (List Int)) : absF tab sigs O_laws_toIntS A_laws_toIntS Try.f15 [((.slice 3 (.int .i64)), (.own 0))] n [.val (.slice 3 (.int .i64)) a0] = laws_toIntS (fun r0 => some [⟨(.slice 3 (.int .i64)), r0⟩]) (fun v0_0 v0_1 v0_2 => L_laws_toIntS_0 n n (S_laws_toIntS_0 v0_0 v0_1 v0_2)) a0 := by kernel_rfl
theorem said_laws_toIntS (a0 : (List Int)) (g : G.laws_toIntS a0 = true) : Said Try.prog sigs_15 15 [.val (.slice 3 (.int .i64)) a0] [⟨(.slice 3 (.int .i64)), N.laws_toIntS a0⟩] := said_len (T := tab) (A := A_laws_toIntS) tabOk ok_laws_toIntS tabOk.follows Try.func15 (by kernel_rfl) (by kernel_rfl) (fun hl => let ⟨n, hn⟩ := laws_toIntS_ok (ρ := Ret) (fun r0 => some [⟨(.slice 3 (.int .i64)), r0⟩]) a0 hl.1 g; ⟨n, (a_laws_toIntS n a0).trans (hn n (Nat.le_refl n) (fun  m v0_0 v0_1 v0_2 => L_laws_toIntS_0 n  m (S_laws_toIntS_0 v0_0 v0_1 v0_2)) (fun  m v0_0 v0_1 v0_2 => b_laws_toIntS_0 n  m v0_0 v0_1 v0_2))⟩)
/-! laws.toProof -/
abbrev G.laws_toProof (a : TProof) : Bool := decide (wPr a ≤ 1048576)
abbrev N.laws_toProof (a : TProof) : TProof := a
def laws_toProof {ρ : Type} (k : TProof → Option ρ) (a0 : TProof) : Option ρ := (cond (G.laws_toIntS a0.2) (k (a0.1, (N.laws_toIntS a0.2))) none)
theorem laws_toProof_ok {ρ : Type} (k : TProof → Option ρ) (a0 : TProof) (l_a0 : (True ∧ lnL (fun _ => True) a0.2)) (g : G.laws_toProof a0 = true) : laws_toProof k  a0 = k (N.laws_toProof a0) := by
  unfold G.laws_toProof at g
  show cond (decide (wPr a0 ≤ 1048576)) _ none = _
  rw [g]
  rfl
def O_laws_toProof : Orac := (orcX 15 [.val (.slice 3 (.int .i64))] (fun d => G.laws_toIntS d.1) (fun d => [⟨(.slice 3 (.int .i64)), N.laws_toIntS d.1⟩]) nilO)
theorem ok_laws_toProof : OracOk Try.prog sigs O_laws_toProof := (orcX_ok rfl (fun d g => said_laws_toIntS d.1 g) nilO_ok)
def A_laws_toProof : Ann := fun b => ⟨[], []⟩
theorem a_laws_toProof (n : Nat) (a0 : TProof) : absF tab sigs O_laws_toProof A_laws_toProof Try.f11 [((.pair (.int .i64) (.slice 3 (.int .i64))), (.pair .no (.own 0)))] n [.val (.pair (.int .i64) (.slice 3 (.int .i64))) a0] = laws_toProof (fun r0 => some [⟨(.pair (.int .i64) (.slice 3 (.int .i64))), r0⟩])  a0 := by kernel_rfl
theorem said_laws_toProof (a0 : TProof) (g : G.laws_toProof a0 = true) : Said Try.prog sigs_11 11 [.val (.pair (.int .i64) (.slice 3 (.int .i64))) a0] [⟨(.pair (.int .i64) (.slice 3 (.int .i64))), N.laws_toProof a0⟩] := said_len (T := tab) (A := A_laws_toProof) tabOk ok_laws_toProof tabOk.follows Try.func11 (by kernel_rfl) (by kernel_rfl) (fun hl => ⟨0, (a_laws_toProof 0 a0).trans (laws_toProof_ok (ρ := Ret) (fun r0 => some [⟨(.pair (.int .i64) (.slice 3 (.int .i64))), r0⟩]) a0 hl.1 g)⟩)
/-! spec.EqualInts -/
abbrev N.spec_EqualInts (a b : List Int) : Bool := eqInts a b
def spec_EqualInts_L0 {ρ : Type} (k : Bool → Option ρ) (L0 : (List Int) → (List Int) → Int → Option ρ) (v0_0 : (List Int)) (v0_1 : (List Int)) (v0_2 : Int) : Option ρ := (cond (decide (v0_2 < (List.length v0_0 : Int))) (cond (inRange v0_2 (List.length v0_0)) (cond (inRange v0_2 (List.length v0_1)) (cond ((List.getD v0_0 (Int.toNat v0_2) (0 : Int)) != (List.getD v0_1 (Int.toNat v0_2) (0 : Int))) (k false) (L0 v0_0 v0_1 (IntKind.wrap .i64 (v0_2 + (1 : Int))))) none) none) (k true))
def spec_EqualInts {ρ : Type} (k : Bool → Option ρ) (L0 : (List Int) → (List Int) → Int → Option ρ) (a0 : (List Int)) (a1 : (List Int)) : Option ρ := (cond ((List.length a0 : Int) != (List.length a1 : Int)) (k false) (L0 a0 a1 (0 : Int)))
theorem spec_EqualInts_ok {ρ : Type} (k : Bool → Option ρ) (a0 : (List Int)) (a1 : (List Int)) (l_a0 : lnL (fun _ => True) a0) (l_a1 : lnL (fun _ => True) a1) : ∃ n0, ∀ n, n0 ≤ n → ∀ (L0 : Nat → (List Int) → (List Int) → Int → Option ρ) (h0 : ∀ ( m : Nat) (v0_0 : (List Int)) (v0_1 : (List Int)) (v0_2 : Int), L0 (m + 1) v0_0 v0_1 v0_2 = spec_EqualInts_L0 k (L0 m) v0_0 v0_1 v0_2), spec_EqualInts k (L0 n) a0 a1 = k (N.spec_EqualInts a0 a1) := by
  exact ⟨a0.length + 1, fun n hn L0 h0 => eq_all (p := fun x y => x == y) (d := 0) l_a0.1 (L := fun m i => L0 m a0 a1 i) (fun m i => h0 m a0 a1 i) hn⟩
def O_spec_EqualInts : Orac := nilO
theorem ok_spec_EqualInts : OracOk Try.prog sigs O_spec_EqualInts := nilO_ok
def A_spec_EqualInts : Ann := fun b => cond (Nat.beq b 0) ⟨[(0, false), (1, false), (5, false)], []⟩ (⟨[], []⟩)
def S_spec_EqualInts_0 (v0_0 : (List Int)) (v0_1 : (List Int)) (v0_2 : Int) : St := [(kT 0, some (.tv (.v (.slice 3 (.int .i64)) v0_0 .no))), (kT 1, some (.tv (.v (.slice 3 (.int .i64)) v0_1 .no))), (kT 5, some (.tv (.v (.int .i64) v0_2 .no)))]
noncomputable def L_spec_EqualInts_0 (n m : Nat) : St → Option Ret := loopOf tab sigs O_spec_EqualInts A_spec_EqualInts Try.f35 [(.bool, .no)] n (fun _ => 0) 0 m
theorem b_spec_EqualInts_0 (n m : Nat) (v0_0 : (List Int)) (v0_1 : (List Int)) (v0_2 : Int) : L_spec_EqualInts_0 n (m + 1) (S_spec_EqualInts_0 v0_0 v0_1 v0_2) = spec_EqualInts_L0 (fun r0 => some [⟨.bool, r0⟩]) (fun v0_0 v0_1 v0_2 => L_spec_EqualInts_0 n m (S_spec_EqualInts_0 v0_0 v0_1 v0_2)) v0_0 v0_1 v0_2 := by kernel_rfl
theorem a_spec_EqualInts (n : Nat) (a0 : (List Int)) (a1 : (List Int)) : absF tab sigs O_spec_EqualInts A_spec_EqualInts Try.f35 [(.bool, .no)] n [.val (.slice 3 (.int .i64)) a0, .val (.slice 3 (.int .i64)) a1] = spec_EqualInts (fun r0 => some [⟨.bool, r0⟩]) (fun v0_0 v0_1 v0_2 => L_spec_EqualInts_0 n n (S_spec_EqualInts_0 v0_0 v0_1 v0_2)) a0 a1 := by kernel_rfl
theorem said_spec_EqualInts (a0 : (List Int)) (a1 : (List Int)) : Said Try.prog sigs_35 35 [.val (.slice 3 (.int .i64)) a0, .val (.slice 3 (.int .i64)) a1] [⟨.bool, N.spec_EqualInts a0 a1⟩] := said_len (T := tab) (A := A_spec_EqualInts) tabOk ok_spec_EqualInts tabOk.follows Try.func35 (by kernel_rfl) (by kernel_rfl) (fun hl => let ⟨n, hn⟩ := spec_EqualInts_ok (ρ := Ret) (fun r0 => some [⟨.bool, r0⟩]) a0 a1 hl.1 hl.2.1; ⟨n, (a_spec_EqualInts n a0 a1).trans (hn n (Nat.le_refl n) (fun  m v0_0 v0_1 v0_2 => L_spec_EqualInts_0 n  m (S_spec_EqualInts_0 v0_0 v0_1 v0_2)) (fun  m v0_0 v0_1 v0_2 => b_spec_EqualInts_0 n  m v0_0 v0_1 v0_2))⟩)
/-! spec.EqualProofs -/
abbrev N.spec_EqualProofs (a b : TProof) : Bool := eqProof a b
def spec_EqualProofs {ρ : Type} (k : Bool → Option ρ) (a0 : TProof) (a1 : TProof) : Option ρ := (cond (a0.1 == a1.1) (k (N.spec_EqualInts a0.2 a1.2)) (k false))
theorem spec_EqualProofs_ok {ρ : Type} (k : Bool → Option ρ) (a0 : TProof) (a1 : TProof) (l_a0 : (True ∧ lnL (fun _ => True) a0.2)) (l_a1 : (True ∧ lnL (fun _ => True) a1.2)) : spec_EqualProofs k  a0 a1 = k (N.spec_EqualProofs a0 a1) := by
  simp only [spec_EqualProofs, eqProof]
  cases a0.1 == a1.1 <;> rfl
def O_spec_EqualProofs : Orac := (orcX 35 [.val (.slice 3 (.int .i64)), .val (.slice 3 (.int .i64))] (fun d => true) (fun d => [⟨.bool, N.spec_EqualInts d.1 d.2.1⟩]) nilO)
theorem ok_spec_EqualProofs : OracOk Try.prog sigs O_spec_EqualProofs := (orcX_ok rfl (fun d g => said_spec_EqualInts d.1 d.2.1) nilO_ok)
def A_spec_EqualProofs : Ann := fun b => ⟨[], []⟩
theorem a_spec_EqualProofs (n : Nat) (a0 : TProof) (a1 : TProof) : absF tab sigs O_spec_EqualProofs A_spec_EqualProofs Try.f10 [(.bool, .no)] n [.val (.pair (.int .i64) (.slice 3 (.int .i64))) a0, .val (.pair (.int .i64) (.slice 3 (.int .i64))) a1] = spec_EqualProofs (fun r0 => some [⟨.bool, r0⟩])  a0 a1 := by kernel_rfl
theorem said_spec_EqualProofs (a0 : TProof) (a1 : TProof) : Said Try.prog sigs_10 10 [.val (.pair (.int .i64) (.slice 3 (.int .i64))) a0, .val (.pair (.int .i64) (.slice 3 (.int .i64))) a1] [⟨.bool, N.spec_EqualProofs a0 a1⟩] := said_len (T := tab) (A := A_spec_EqualProofs) tabOk ok_spec_EqualProofs tabOk.follows Try.func10 (by kernel_rfl) (by kernel_rfl) (fun hl => ⟨0, (a_spec_EqualProofs 0 a0 a1).trans (spec_EqualProofs_ok (ρ := Ret) (fun r0 => some [⟨.bool, r0⟩]) a0 a1 hl.1 hl.2.1)⟩)
/-! slices.Equal[[]int,int] -/
abbrev N.slices_Equal_int (a b : List Int) : Bool := eqInts a b
def slices_Equal_int_L0 {ρ : Type} (k : Bool → Option ρ) (L0 : (List Int) → (List Int) → Int → Int → Option ρ) (v0_0 : (List Int)) (v0_1 : (List Int)) (v0_2 : Int) (v0_3 : Int) : Option ρ := (cond (decide (v0_3 < v0_2)) (cond (inRange v0_3 (List.length v0_0)) (cond (inRange v0_3 (List.length v0_1)) (cond ((List.getD v0_0 (Int.toNat v0_3) (0 : Int)) != (List.getD v0_1 (Int.toNat v0_3) (0 : Int))) (k false) (L0 v0_0 v0_1 v0_2 (IntKind.wrap .i64 (v0_3 + (1 : Int))))) none) none) (k true))
def slices_Equal_int {ρ : Type} (k : Bool → Option ρ) (L0 : (List Int) → (List Int) → Int → Int → Option ρ) (a0 : (List Int)) (a1 : (List Int)) : Option ρ := (cond ((List.length a0 : Int) != (List.length a1 : Int)) (k false) (L0 a0 a1 (List.length a0 : Int) (0 : Int)))
theorem slices_Equal_int_ok {ρ : Type} (k : Bool → Option ρ) (a0 : (List Int)) (a1 : (List Int)) (l_a0 : lnL (fun _ => True) a0) (l_a1 : lnL (fun _ => True) a1) : ∃ n0, ∀ n, n0 ≤ n → ∀ (L0 : Nat → (List Int) → (List Int) → Int → Int → Option ρ) (h0 : ∀ ( m : Nat) (v0_0 : (List Int)) (v0_1 : (List Int)) (v0_2 : Int) (v0_3 : Int), L0 (m + 1) v0_0 v0_1 v0_2 v0_3 = slices_Equal_int_L0 k (L0 m) v0_0 v0_1 v0_2 v0_3), slices_Equal_int k (L0 n) a0 a1 = k (N.slices_Equal_int a0 a1) := by
  exact ⟨a0.length + 1, fun n hn L0 h0 => eq_all (p := fun x y => x == y) (d := 0) l_a0.1 (L := fun m i => L0 m a0 a1 (a0.length : Int) i) (fun m i => h0 m a0 a1 (a0.length : Int) i) hn⟩
def O_slices_Equal_int : Orac := nilO
theorem ok_slices_Equal_int : OracOk Try.prog sigs O_slices_Equal_int := nilO_ok
def A_slices_Equal_int : Ann := fun b => cond (Nat.beq b 0) ⟨[(0, false), (1, false), (12, false), (13, false)], []⟩ (⟨[], []⟩)
def S_slices_Equal_int_0 (v0_0 : (List Int)) (v0_1 : (List Int)) (v0_2 : Int) (v0_3 : Int) : St := [(kT 0, some (.tv (.v (.slice 3 (.int .i64)) v0_0 .no))), (kT 1, some (.tv (.v (.slice 3 (.int .i64)) v0_1 .no))), (kT 12, some (.tv (.v (.int .i64) v0_2 .no))), (kT 13, some (.tv (.v (.int .i64) v0_3 .no)))]
noncomputable def L_slices_Equal_int_0 (n m : Nat) : St → Option Ret := loopOf tab sigs O_slices_Equal_int A_slices_Equal_int Try.f36 [(.bool, .no)] n (fun _ => 0) 0 m
theorem b_slices_Equal_int_0 (n m : Nat) (v0_0 : (List Int)) (v0_1 : (List Int)) (v0_2 : Int) (v0_3 : Int) : L_slices_Equal_int_0 n (m + 1) (S_slices_Equal_int_0 v0_0 v0_1 v0_2 v0_3) = slices_Equal_int_L0 (fun r0 => some [⟨.bool, r0⟩]) (fun v0_0 v0_1 v0_2 v0_3 => L_slices_Equal_int_0 n m (S_slices_Equal_int_0 v0_0 v0_1 v0_2 v0_3)) v0_0 v0_1 v0_2 v0_3 := by kernel_rfl
theorem a_slices_Equal_int (n : Nat) (a0 : (List Int)) (a1 : (List Int)) : absF tab sigs O_slices_Equal_int A_slices_Equal_int Try.f36 [(.bool, .no)] n [.val (.slice 3 (.int .i64)) a0, .val (.slice 3 (.int .i64)) a1] = slices_Equal_int (fun r0 => some [⟨.bool, r0⟩]) (fun v0_0 v0_1 v0_2 v0_3 => L_slices_Equal_int_0 n n (S_slices_Equal_int_0 v0_0 v0_1 v0_2 v0_3)) a0 a1 := by kernel_rfl
theorem said_slices_Equal_int (a0 : (List Int)) (a1 : (List Int)) : Said Try.prog sigs_36 36 [.val (.slice 3 (.int .i64)) a0, .val (.slice 3 (.int .i64)) a1] [⟨.bool, N.slices_Equal_int a0 a1⟩] := said_len (T := tab) (A := A_slices_Equal_int) tabOk ok_slices_Equal_int tabOk.follows Try.func36 (by kernel_rfl) (by kernel_rfl) (fun hl => let ⟨n, hn⟩ := slices_Equal_int_ok (ρ := Ret) (fun r0 => some [⟨.bool, r0⟩]) a0 a1 hl.1 hl.2.1; ⟨n, (a_slices_Equal_int n a0 a1).trans (hn n (Nat.le_refl n) (fun  m v0_0 v0_1 v0_2 v0_3 => L_slices_Equal_int_0 n  m (S_slices_Equal_int_0 v0_0 v0_1 v0_2 v0_3)) (fun  m v0_0 v0_1 v0_2 v0_3 => b_slices_Equal_int_0 n  m v0_0 v0_1 v0_2 v0_3))⟩)
/-! impl.EqualProofs -/
abbrev N.impl_EqualProofs (a b : TProof) : Bool := eqProof a b
def impl_EqualProofs {ρ : Type} (k : Bool → Option ρ) (a0 : TProof) (a1 : TProof) : Option ρ := (cond (a0.1 == a1.1) (k (N.slices_Equal_int a0.2 a1.2)) (k false))
theorem impl_EqualProofs_ok {ρ : Type} (k : Bool → Option ρ) (a0 : TProof) (a1 : TProof) (l_a0 : (True ∧ lnL (fun _ => True) a0.2)) (l_a1 : (True ∧ lnL (fun _ => True) a1.2)) : impl_EqualProofs k  a0 a1 = k (N.impl_EqualProofs a0 a1) := by
  simp only [impl_EqualProofs, eqProof]
  cases a0.1 == a1.1 <;> rfl
def O_impl_EqualProofs : Orac := (orcX 36 [.val (.slice 3 (.int .i64)), .val (.slice 3 (.int .i64))] (fun d => true) (fun d => [⟨.bool, N.slices_Equal_int d.1 d.2.1⟩]) nilO)
theorem ok_impl_EqualProofs : OracOk Try.prog sigs O_impl_EqualProofs := (orcX_ok rfl (fun d g => said_slices_Equal_int d.1 d.2.1) nilO_ok)
def A_impl_EqualProofs : Ann := fun b => ⟨[], []⟩
theorem a_impl_EqualProofs (n : Nat) (a0 : TProof) (a1 : TProof) : absF tab sigs O_impl_EqualProofs A_impl_EqualProofs Try.f12 [(.bool, .no)] n [.val (.pair (.int .i64) (.slice 3 (.int .i64))) a0, .val (.pair (.int .i64) (.slice 3 (.int .i64))) a1] = impl_EqualProofs (fun r0 => some [⟨.bool, r0⟩])  a0 a1 := by kernel_rfl
theorem said_impl_EqualProofs (a0 : TProof) (a1 : TProof) : Said Try.prog sigs_12 12 [.val (.pair (.int .i64) (.slice 3 (.int .i64))) a0, .val (.pair (.int .i64) (.slice 3 (.int .i64))) a1] [⟨.bool, N.impl_EqualProofs a0 a1⟩] := said_len (T := tab) (A := A_impl_EqualProofs) tabOk ok_impl_EqualProofs tabOk.follows Try.func12 (by kernel_rfl) (by kernel_rfl) (fun hl => ⟨0, (a_impl_EqualProofs 0 a0 a1).trans (impl_EqualProofs_ok (ρ := Ret) (fun r0 => some [⟨.bool, r0⟩]) a0 a1 hl.1 hl.2.1)⟩)
/-! laws.eqIntS -/
abbrev N.laws_eqIntS (a b : List Int) : Bool := eqInts a b
def laws_eqIntS_L0 {ρ : Type} (k : Bool → Option ρ) (L0 : (List Int) → (List Int) → Int → Option ρ) (v0_0 : (List Int)) (v0_1 : (List Int)) (v0_2 : Int) : Option ρ := (cond (decide (v0_2 < (List.length v0_0 : Int))) (cond (inRange v0_2 (List.length v0_0)) (cond (inRange v0_2 (List.length v0_1)) (cond ((List.getD v0_0 (Int.toNat v0_2) (0 : Int)) != (List.getD v0_1 (Int.toNat v0_2) (0 : Int))) (k false) (L0 v0_0 v0_1 (IntKind.wrap .i64 (v0_2 + (1 : Int))))) none) none) (k true))
def laws_eqIntS {ρ : Type} (k : Bool → Option ρ) (L0 : (List Int) → (List Int) → Int → Option ρ) (a0 : (List Int)) (a1 : (List Int)) : Option ρ := (cond ((List.length a0 : Int) != (List.length a1 : Int)) (k false) (L0 a0 a1 (0 : Int)))
theorem laws_eqIntS_ok {ρ : Type} (k : Bool → Option ρ) (a0 : (List Int)) (a1 : (List Int)) (l_a0 : lnL (fun _ => True) a0) (l_a1 : lnL (fun _ => True) a1) : ∃ n0, ∀ n, n0 ≤ n → ∀ (L0 : Nat → (List Int) → (List Int) → Int → Option ρ) (h0 : ∀ ( m : Nat) (v0_0 : (List Int)) (v0_1 : (List Int)) (v0_2 : Int), L0 (m + 1) v0_0 v0_1 v0_2 = laws_eqIntS_L0 k (L0 m) v0_0 v0_1 v0_2), laws_eqIntS k (L0 n) a0 a1 = k (N.laws_eqIntS a0 a1) := by
  exact ⟨a0.length + 1, fun n hn L0 h0 => eq_all (p := fun x y => x == y) (d := 0) l_a0.1 (L := fun m i => L0 m a0 a1 i) (fun m i => h0 m a0 a1 i) hn⟩
def O_laws_eqIntS : Orac := nilO
theorem ok_laws_eqIntS : OracOk Try.prog sigs O_laws_eqIntS := nilO_ok
def A_laws_eqIntS : Ann := fun b => cond (Nat.beq b 0) ⟨[(0, false), (1, false), (5, false)], []⟩ (⟨[], []⟩)
def S_laws_eqIntS_0 (v0_0 : (List Int)) (v0_1 : (List Int)) (v0_2 : Int) : St := [(kT 0, some (.tv (.v (.slice 3 (.int .i64)) v0_0 .no))), (kT 1, some (.tv (.v (.slice 3 (.int .i64)) v0_1 .no))), (kT 5, some (.tv (.v (.int .i64) v0_2 .no)))]
noncomputable def L_laws_eqIntS_0 (n m : Nat) : St → Option Ret := loopOf tab sigs O_laws_eqIntS A_laws_eqIntS Try.f17 [(.bool, .no)] n (fun _ => 0) 0 m
theorem b_laws_eqIntS_0 (n m : Nat) (v0_0 : (List Int)) (v0_1 : (List Int)) (v0_2 : Int) : L_laws_eqIntS_0 n (m + 1) (S_laws_eqIntS_0 v0_0 v0_1 v0_2) = laws_eqIntS_L0 (fun r0 => some [⟨.bool, r0⟩]) (fun v0_0 v0_1 v0_2 => L_laws_eqIntS_0 n m (S_laws_eqIntS_0 v0_0 v0_1 v0_2)) v0_0 v0_1 v0_2 := by kernel_rfl
theorem a_laws_eqIntS (n : Nat) (a0 : (List Int)) (a1 : (List Int)) : absF tab sigs O_laws_eqIntS A_laws_eqIntS Try.f17 [(.bool, .no)] n [.val (.slice 3 (.int .i64)) a0, .val (.slice 3 (.int .i64)) a1] = laws_eqIntS (fun r0 => some [⟨.bool, r0⟩]) (fun v0_0 v0_1 v0_2 => L_laws_eqIntS_0 n n (S_laws_eqIntS_0 v0_0 v0_1 v0_2)) a0 a1 := by kernel_rfl
theorem said_laws_eqIntS (a0 : (List Int)) (a1 : (List Int)) : Said Try.prog sigs_17 17 [.val (.slice 3 (.int .i64)) a0, .val (.slice 3 (.int .i64)) a1] [⟨.bool, N.laws_eqIntS a0 a1⟩] := said_len (T := tab) (A := A_laws_eqIntS) tabOk ok_laws_eqIntS tabOk.follows Try.func17 (by kernel_rfl) (by kernel_rfl) (fun hl => let ⟨n, hn⟩ := laws_eqIntS_ok (ρ := Ret) (fun r0 => some [⟨.bool, r0⟩]) a0 a1 hl.1 hl.2.1; ⟨n, (a_laws_eqIntS n a0 a1).trans (hn n (Nat.le_refl n) (fun  m v0_0 v0_1 v0_2 => L_laws_eqIntS_0 n  m (S_laws_eqIntS_0 v0_0 v0_1 v0_2)) (fun  m v0_0 v0_1 v0_2 => b_laws_eqIntS_0 n  m v0_0 v0_1 v0_2))⟩)
/-! laws.eqProof -/
abbrev N.laws_eqProof (a b : TProof) : Bool := eqProof a b
def laws_eqProof {ρ : Type} (k : Bool → Option ρ) (a0 : TProof) (a1 : TProof) : Option ρ := (cond (a0.1 != a1.1) (k false) (cond (!(N.laws_eqIntS a0.2 a1.2)) (k false) (k true)))
theorem laws_eqProof_ok {ρ : Type} (k : Bool → Option ρ) (a0 : TProof) (a1 : TProof) (l_a0 : (True ∧ lnL (fun _ => True) a0.2)) (l_a1 : (True ∧ lnL (fun _ => True) a1.2)) : laws_eqProof k  a0 a1 = k (N.laws_eqProof a0 a1) := by
  simp only [laws_eqProof, N.laws_eqProof, N.laws_eqIntS, eqProof, bne]
  cases eqInts a0.2 a1.2 <;> cases a0.1 == a1.1 <;> rfl
def O_laws_eqProof : Orac := (orcX 17 [.val (.slice 3 (.int .i64)), .val (.slice 3 (.int .i64))] (fun d => true) (fun d => [⟨.bool, N.laws_eqIntS d.1 d.2.1⟩]) nilO)
theorem ok_laws_eqProof : OracOk Try.prog sigs O_laws_eqProof := (orcX_ok rfl (fun d g => said_laws_eqIntS d.1 d.2.1) nilO_ok)
def A_laws_eqProof : Ann := fun b => ⟨[], []⟩
theorem a_laws_eqProof (n : Nat) (a0 : TProof) (a1 : TProof) : absF tab sigs O_laws_eqProof A_laws_eqProof Try.f13 [(.bool, .no)] n [.val (.pair (.int .i64) (.slice 3 (.int .i64))) a0, .val (.pair (.int .i64) (.slice 3 (.int .i64))) a1] = laws_eqProof (fun r0 => some [⟨.bool, r0⟩])  a0 a1 := by kernel_rfl
theorem said_laws_eqProof (a0 : TProof) (a1 : TProof) : Said Try.prog sigs_13 13 [.val (.pair (.int .i64) (.slice 3 (.int .i64))) a0, .val (.pair (.int .i64) (.slice 3 (.int .i64))) a1] [⟨.bool, N.laws_eqProof a0 a1⟩] := said_len (T := tab) (A := A_laws_eqProof) tabOk ok_laws_eqProof tabOk.follows Try.func13 (by kernel_rfl) (by kernel_rfl) (fun hl => ⟨0, (a_laws_eqProof 0 a0 a1).trans (laws_eqProof_ok (ρ := Ret) (fun r0 => some [⟨.bool, r0⟩]) a0 a1 hl.1 hl.2.1)⟩)
/-! spec.l1In -/
abbrev N.spec_l1In (n lo hi : Int) : Bool := inR n lo hi
def spec_l1In {ρ : Type} (k : Bool → Option ρ) (a0 : Int) (a1 : Int) (a2 : Int) : Option ρ := (cond (decide (a0 ≥ a1)) (k (decide (a0 ≤ a2))) (k false))
theorem spec_l1In_ok {ρ : Type} (k : Bool → Option ρ) (a0 : Int) (a1 : Int) (a2 : Int) : spec_l1In k  a0 a1 a2 = k (N.spec_l1In a0 a1 a2) := by
  simp only [spec_l1In, inR, ge_iff_le]
  cases decide (a1 ≤ a0) <;> rfl
def O_spec_l1In : Orac := nilO
theorem ok_spec_l1In : OracOk Try.prog sigs O_spec_l1In := nilO_ok
def A_spec_l1In : Ann := fun b => ⟨[], []⟩
theorem a_spec_l1In (n : Nat) (a0 : Int) (a1 : Int) (a2 : Int) : absF tab sigs O_spec_l1In A_spec_l1In Try.f41 [(.bool, .no)] n [.val (.int .i64) a0, .val (.int .i64) a1, .val (.int .i64) a2] = spec_l1In (fun r0 => some [⟨.bool, r0⟩])  a0 a1 a2 := by kernel_rfl
theorem said_spec_l1In (a0 : Int) (a1 : Int) (a2 : Int) : Said Try.prog sigs_41 41 [.val (.int .i64) a0, .val (.int .i64) a1, .val (.int .i64) a2] [⟨.bool, N.spec_l1In a0 a1 a2⟩] := said_len (T := tab) (A := A_spec_l1In) tabOk ok_spec_l1In tabOk.follows Try.func41 (by kernel_rfl) (by kernel_rfl) (fun hl => ⟨0, (a_spec_l1In 0 a0 a1 a2).trans (spec_l1In_ok (ρ := Ret) (fun r0 => some [⟨.bool, r0⟩]) a0 a1 a2)⟩)
/-! spec.Mod -/
abbrev N.spec_Mod (n m : Int) : Int := modM n m
def spec_Mod {ρ : Type} (k : Int → Option ρ) (a0 : Int) (a1 : Int) : Option ρ := (cond (!(N.spec_l1In a1 (1 : Int) (1000000000000 : Int))) (k (0 : Int)) (cond (!(decide (a1 = 0))) (cond (!(decide (a1 = 0))) (k (Int.tmod (IntKind.wrap .i64 ((Int.tmod a0 a1) + a1)) a1)) none) none))
theorem spec_Mod_ok {ρ : Type} (k : Int → Option ρ) (a0 : Int) (a1 : Int) : spec_Mod k  a0 a1 = k (N.spec_Mod a0 a1) := by
  simp only [spec_Mod, N.spec_l1In, modM]
  cases h : inR a1 1 1000000000000
  · rfl
  · have h1 : 1 ≤ a1 := by
      unfold inR at h
      simp only [Bool.and_eq_true, decide_eq_true_eq] at h
      exact h.1
    have h2 : decide (a1 = 0) = false := by simp; omega
    simp [h2]
def O_spec_Mod : Orac := (orcX 41 [.val (.int .i64), .val (.int .i64), .val (.int .i64)] (fun d => true) (fun d => [⟨.bool, N.spec_l1In d.1 d.2.1 d.2.2.1⟩]) nilO)
theorem ok_spec_Mod : OracOk Try.prog sigs O_spec_Mod := (orcX_ok rfl (fun d g => said_spec_l1In d.1 d.2.1 d.2.2.1) nilO_ok)
def A_spec_Mod : Ann := fun b => ⟨[], []⟩
theorem a_spec_Mod (n : Nat) (a0 : Int) (a1 : Int) : absF tab sigs O_spec_Mod A_spec_Mod Try.f48 [((.int .i64), .no)] n [.val (.int .i64) a0, .val (.int .i64) a1] = spec_Mod (fun r0 => some [⟨(.int .i64), r0⟩])  a0 a1 := by kernel_rfl
theorem said_spec_Mod (a0 : Int) (a1 : Int) : Said Try.prog sigs_48 48 [.val (.int .i64) a0, .val (.int .i64) a1] [⟨(.int .i64), N.spec_Mod a0 a1⟩] := said_len (T := tab) (A := A_spec_Mod) tabOk ok_spec_Mod tabOk.follows Try.func48 (by kernel_rfl) (by kernel_rfl) (fun hl => ⟨0, (a_spec_Mod 0 a0 a1).trans (spec_Mod_ok (ρ := Ret) (fun r0 => some [⟨(.int .i64), r0⟩]) a0 a1)⟩)
/-! spec.Hash -/
abbrev N.spec_Hash (l : List Int) : Int := hash l
def spec_Hash_L0 {ρ : Type} (k : Int → Option ρ) (L0 : (List Int) → Int → Int → Option ρ) (v0_0 : (List Int)) (v0_1 : Int) (v0_2 : Int) : Option ρ := (cond (decide (v0_2 < (List.length v0_0 : Int))) (cond (inRange v0_2 (List.length v0_0)) (L0 v0_0 (Int.tmod (IntKind.wrap .i64 ((IntKind.wrap .i64 ((IntKind.wrap .i64 (v0_1 * (1000003 : Int))) + (N.spec_Mod (List.getD v0_0 (Int.toNat v0_2) (0 : Int)) (2147483647 : Int)))) + (13 : Int))) (2147483647 : Int)) (IntKind.wrap .i64 (v0_2 + (1 : Int)))) none) (k v0_1))
def spec_Hash {ρ : Type} (k : Int → Option ρ) (L0 : (List Int) → Int → Int → Option ρ) (a0 : (List Int)) : Option ρ := (L0 a0 (11 : Int) (0 : Int))
theorem spec_Hash_ok {ρ : Type} (k : Int → Option ρ) (a0 : (List Int)) (l_a0 : lnL (fun _ => True) a0) : ∃ n0, ∀ n, n0 ≤ n → ∀ (L0 : Nat → (List Int) → Int → Int → Option ρ) (h0 : ∀ ( m : Nat) (v0_0 : (List Int)) (v0_1 : Int) (v0_2 : Int), L0 (m + 1) v0_0 v0_1 v0_2 = spec_Hash_L0 k (L0 m) v0_0 v0_1 v0_2), spec_Hash k (L0 n) a0 = k (N.spec_Hash a0) := by
  refine ⟨a0.length + 1, fun n hn L0 h0 => ?_⟩
  refine raw_foldl (a := a0) 0 hashStep (k := k) (L := fun m i s => L0 m a0 s i) (R := fun i s c => spec_Hash_L0 k (fun _ s i => c i s) a0 s i) (fun m i s => h0 m a0 s i) (fun _ _ => True) (fun j s c hj _ => ?_) (fun _ _ _ _ => trivial) (fun s c => ?_) hn trivial
  · have : j < big := by have := l_a0.1; omega
    simp [spec_Hash_L0, lt_nat, inRange_nat, hj, wrap_succ this, hashStep]
  · simp [spec_Hash_L0]
def O_spec_Hash : Orac := (orcX 48 [.val (.int .i64), .val (.int .i64)] (fun d => true) (fun d => [⟨(.int .i64), N.spec_Mod d.1 d.2.1⟩]) nilO)
theorem ok_spec_Hash : OracOk Try.prog sigs O_spec_Hash := (orcX_ok rfl (fun d g => said_spec_Mod d.1 d.2.1) nilO_ok)
def A_spec_Hash : Ann := fun b => cond (Nat.beq b 0) ⟨[(0, false), (3, false), (4, false)], []⟩ (⟨[], []⟩)
def S_spec_Hash_0 (v0_0 : (List Int)) (v0_1 : Int) (v0_2 : Int) : St := [(kT 0, some (.tv (.v (.slice 3 (.int .i64)) v0_0 .no))), (kT 3, some (.tv (.v (.int .i64) v0_1 .no))), (kT 4, some (.tv (.v (.int .i64) v0_2 .no)))]
noncomputable def L_spec_Hash_0 (n m : Nat) : St → Option Ret := loopOf tab sigs O_spec_Hash A_spec_Hash Try.f37 [((.int .i64), .no)] n (fun _ => 0) 0 m
theorem b_spec_Hash_0 (n m : Nat) (v0_0 : (List Int)) (v0_1 : Int) (v0_2 : Int) : L_spec_Hash_0 n (m + 1) (S_spec_Hash_0 v0_0 v0_1 v0_2) = spec_Hash_L0 (fun r0 => some [⟨(.int .i64), r0⟩]) (fun v0_0 v0_1 v0_2 => L_spec_Hash_0 n m (S_spec_Hash_0 v0_0 v0_1 v0_2)) v0_0 v0_1 v0_2 := by kernel_rfl
theorem a_spec_Hash (n : Nat) (a0 : (List Int)) : absF tab sigs O_spec_Hash A_spec_Hash Try.f37 [((.int .i64), .no)] n [.val (.slice 3 (.int .i64)) a0] = spec_Hash (fun r0 => some [⟨(.int .i64), r0⟩]) (fun v0_0 v0_1 v0_2 => L_spec_Hash_0 n n (S_spec_Hash_0 v0_0 v0_1 v0_2)) a0 := by kernel_rfl
theorem said_spec_Hash (a0 : (List Int)) : Said Try.prog sigs_37 37 [.val (.slice 3 (.int .i64)) a0] [⟨(.int .i64), N.spec_Hash a0⟩] := said_len (T := tab) (A := A_spec_Hash) tabOk ok_spec_Hash tabOk.follows Try.func37 (by kernel_rfl) (by kernel_rfl) (fun hl => let ⟨n, hn⟩ := spec_Hash_ok (ρ := Ret) (fun r0 => some [⟨(.int .i64), r0⟩]) a0 hl.1; ⟨n, (a_spec_Hash n a0).trans (hn n (Nat.le_refl n) (fun  m v0_0 v0_1 v0_2 => L_spec_Hash_0 n  m (S_spec_Hash_0 v0_0 v0_1 v0_2)) (fun  m v0_0 v0_1 v0_2 => b_spec_Hash_0 n  m v0_0 v0_1 v0_2))⟩)
/-! spec.NodeOf -/
abbrev N.spec_NodeOf (a b : Int) : Int := nodeOf a b
def spec_NodeOf {ρ : Type} (k : Int → Option ρ) (a0 : Int) (a1 : Int) : Option ρ := (k (N.spec_Hash [(229 : Int), a0, a1]))
theorem spec_NodeOf_ok {ρ : Type} (k : Int → Option ρ) (a0 : Int) (a1 : Int) : spec_NodeOf k  a0 a1 = k (N.spec_NodeOf a0 a1) := by
  rfl
def O_spec_NodeOf : Orac := (orcX 37 [.val (.slice 3 (.int .i64))] (fun d => true) (fun d => [⟨(.int .i64), N.spec_Hash d.1⟩]) nilO)
theorem ok_spec_NodeOf : OracOk Try.prog sigs O_spec_NodeOf := (orcX_ok rfl (fun d g => said_spec_Hash d.1) nilO_ok)
def A_spec_NodeOf : Ann := fun b => ⟨[], []⟩
theorem a_spec_NodeOf (n : Nat) (a0 : Int) (a1 : Int) : absF tab sigs O_spec_NodeOf A_spec_NodeOf Try.f42 [((.int .i64), .no)] n [.val (.int .i64) a0, .val (.int .i64) a1] = spec_NodeOf (fun r0 => some [⟨(.int .i64), r0⟩])  a0 a1 := by kernel_rfl
theorem said_spec_NodeOf (a0 : Int) (a1 : Int) : Said Try.prog sigs_42 42 [.val (.int .i64) a0, .val (.int .i64) a1] [⟨(.int .i64), N.spec_NodeOf a0 a1⟩] := said_len (T := tab) (A := A_spec_NodeOf) tabOk ok_spec_NodeOf tabOk.follows Try.func42 (by kernel_rfl) (by kernel_rfl) (fun hl => ⟨0, (a_spec_NodeOf 0 a0 a1).trans (spec_NodeOf_ok (ρ := Ret) (fun r0 => some [⟨(.int .i64), r0⟩]) a0 a1)⟩)
/-! spec.l10Up -/
abbrev G.spec_l10Up (l : List Int) : Bool := decide (l.length ≤ 1048576)
abbrev N.spec_l10Up (l : List Int) : List Int := up l
def spec_l10Up_L0 {ρ : Type} (k : (List Int) → Option ρ) (L0 : (List Int) → Int → (List Int) → Option ρ) (v0_0 : (List Int)) (v0_1 : Int) (v0_2 : (List Int)) : Option ρ := (cond (decide (v0_1 < (List.length v0_0 : Int))) (cond (decide ((IntKind.wrap .i64 (v0_1 + (1 : Int))) < (List.length v0_0 : Int))) (cond (inRange v0_1 (List.length v0_0)) (cond (inRange (IntKind.wrap .i64 (v0_1 + (1 : Int))) (List.length v0_0)) (cond (fit (List.length v0_2) (List.length [(N.spec_NodeOf (List.getD v0_0 (Int.toNat v0_1) (0 : Int)) (List.getD v0_0 (Int.toNat (IntKind.wrap .i64 (v0_1 + (1 : Int)))) (0 : Int)))])) (L0 v0_0 (IntKind.wrap .i64 (v0_1 + (2 : Int))) (List.append v0_2 [(N.spec_NodeOf (List.getD v0_0 (Int.toNat v0_1) (0 : Int)) (List.getD v0_0 (Int.toNat (IntKind.wrap .i64 (v0_1 + (1 : Int)))) (0 : Int)))])) none) none) none) (cond (inRange v0_1 (List.length v0_0)) (cond (fit (List.length v0_2) (List.length [(List.getD v0_0 (Int.toNat v0_1) (0 : Int))])) (L0 v0_0 (IntKind.wrap .i64 (v0_1 + (2 : Int))) (List.append v0_2 [(List.getD v0_0 (Int.toNat v0_1) (0 : Int))])) none) none)) (k v0_2))
def spec_l10Up {ρ : Type} (k : (List Int) → Option ρ) (L0 : (List Int) → Int → (List Int) → Option ρ) (a0 : (List Int)) : Option ρ := (L0 a0 (0 : Int) [])
theorem spec_l10Up_ok {ρ : Type} (k : (List Int) → Option ρ) (a0 : (List Int)) (l_a0 : lnL (fun _ => True) a0) (g : G.spec_l10Up a0 = true) : ∃ n0, ∀ n, n0 ≤ n → ∀ (L0 : Nat → (List Int) → Int → (List Int) → Option ρ) (h0 : ∀ ( m : Nat) (v0_0 : (List Int)) (v0_1 : Int) (v0_2 : (List Int)), L0 (m + 1) v0_0 v0_1 v0_2 = spec_l10Up_L0 k (L0 m) v0_0 v0_1 v0_2), spec_l10Up k (L0 n) a0 = k (N.spec_l10Up a0) := by
  unfold G.spec_l10Up at g
  have hlen : a0.length ≤ 1048576 := of_decide_eq_true g
  refine ⟨a0.length + 1, fun n hn L0 h0 => ?_⟩
  refine (raw_meas (σ := Int × List Int) (L := fun m s => L0 m a0 s.1 s.2) (R := fun s c => spec_l10Up_L0 k (fun _ i out => c (i, out)) a0 s.1 s.2) (fun m s => h0 m a0 s.1 s.2) (fun s => 0 ≤ s.1 ∧ s.2.length + s.1 ≤ 2097160 ∧ s.1 ≤ a0.length + 1 ∧ s.2.length ≤ s.1) (fun s => a0.length - s.1.toNat) (fun s => k (s.2 ++ up (a0.drop s.1.toNat))) (fun s c hI hc => ?_) n (0, []) ⟨by simp, by simp, by simp; omega, by simp⟩ (by simp; omega)).trans (by simp)
  obtain ⟨j, out⟩ := s
  obtain ⟨hj0, hj1, hj2, hj3⟩ := hI
  dsimp only at hj0 hj1 hj2 hj3 hc ⊢
  obtain ⟨j, rfl⟩ := Int.eq_ofNat_of_zero_le hj0
  rw [Int.toNat_natCast]
  by_cases h : j < a0.length
  · have e1 : IntKind.wrap .i64 ((j : Int) + 2) = ((j + 2 : Nat) : Int) := by rw [wrap_id (by omega) (by omega)]; omega
    have e2 : IntKind.wrap .i64 ((j : Int) + 1) = ((j + 1 : Nat) : Int) := wrap_succ (by unfold big; omega)
    have e3 : fit out.length 1 = true := fit_of (by omega)
    by_cases h2 : j + 1 < a0.length
    · have hd : a0.drop j = a0.getD j 0 :: a0.getD (j + 1) 0 :: a0.drop (j + 2) := by rw [drop_cons 0 h, drop_cons 0 h2]
      have := hc (((j + 2 : Nat) : Int), out ++ [nodeOf (a0.getD j 0) (a0.getD (j + 1) 0)]) ⟨by simp; omega, by simp; omega, by simp; omega, by simp; omega⟩ (by simp; omega)
      dsimp only at this
      rw [Int.toNat_natCast] at this
      simp only [spec_l10Up_L0, e1, e2, lt_nat, inRange_nat, decide_eq_true h, decide_eq_true h2, cond_true, Int.toNat_natCast, List.length_singleton, Int.natCast_one, e3, List.append_eq, this, hd]
      simp [up]
    · have hd : a0.drop j = [a0.getD j 0] := by rw [drop_cons 0 h, List.drop_of_length_le (by omega)]
      have := hc (((j + 2 : Nat) : Int), out ++ [a0.getD j 0]) ⟨by simp; omega, by simp; omega, by simp; omega, by simp; omega⟩ (by simp; omega)
      dsimp only at this
      rw [Int.toNat_natCast, List.drop_of_length_le (by omega)] at this
      simp only [spec_l10Up_L0, e1, e2, lt_nat, inRange_nat, decide_eq_true h, decide_eq_false h2, cond_true, cond_false, Int.toNat_natCast, List.length_singleton, Int.natCast_one, e3, List.append_eq, this, hd]
      simp [up]
  · simp [spec_l10Up_L0, lt_nat, h, List.drop_of_length_le (Nat.not_lt.1 h), up]
def O_spec_l10Up : Orac := (orcX 42 [.val (.int .i64), .val (.int .i64)] (fun d => true) (fun d => [⟨(.int .i64), N.spec_NodeOf d.1 d.2.1⟩]) nilO)
theorem ok_spec_l10Up : OracOk Try.prog sigs O_spec_l10Up := (orcX_ok rfl (fun d g => said_spec_NodeOf d.1 d.2.1) nilO_ok)
def A_spec_l10Up : Ann := fun b => cond (Nat.beq b 0) ⟨[(0, false), (3, true), (4, false)], []⟩ (⟨[], []⟩)
def S_spec_l10Up_0 (v0_0 : (List Int)) (v0_1 : Int) (v0_2 : (List Int)) : St := [(kT 0, some (.tv (.v (.slice 3 (.int .i64)) v0_0 .no))), (kT 3, some (.tv (.v (.slice 3 (.int .i64)) [] (.own 24)))), (kT 4, some (.tv (.v (.int .i64) v0_1 .no))), (kR 24, some (.row 3 (.int .i64) v0_2))]
noncomputable def L_spec_l10Up_0 (n m : Nat) : St → Option Ret := loopOf tab sigs O_spec_l10Up A_spec_l10Up Try.f38 [((.slice 3 (.int .i64)), (.own 0))] n (fun _ => 0) 0 m
theorem b_spec_l10Up_0 (n m : Nat) (v0_0 : (List Int)) (v0_1 : Int) (v0_2 : (List Int)) : L_spec_l10Up_0 n (m + 1) (S_spec_l10Up_0 v0_0 v0_1 v0_2) = spec_l10Up_L0 (fun r0 => some [⟨(.slice 3 (.int .i64)), r0⟩]) (fun v0_0 v0_1 v0_2 => L_spec_l10Up_0 n m (S_spec_l10Up_0 v0_0 v0_1 v0_2)) v0_0 v0_1 v0_2 := by kernel_rfl
theorem a_spec_l10Up (n : Nat) (a0 : (List Int)) : absF tab sigs O_spec_l10Up A_spec_l10Up Try.f38 [((.slice 3 (.int .i64)), (.own 0))] n [.val (.slice 3 (.int .i64)) a0] = spec_l10Up (fun r0 => some [⟨(.slice 3 (.int .i64)), r0⟩]) (fun v0_0 v0_1 v0_2 => L_spec_l10Up_0 n n (S_spec_l10Up_0 v0_0 v0_1 v0_2)) a0 := by kernel_rfl
theorem said_spec_l10Up (a0 : (List Int)) (g : G.spec_l10Up a0 = true) : Said Try.prog sigs_38 38 [.val (.slice 3 (.int .i64)) a0] [⟨(.slice 3 (.int .i64)), N.spec_l10Up a0⟩] := said_len (T := tab) (A := A_spec_l10Up) tabOk ok_spec_l10Up tabOk.follows Try.func38 (by kernel_rfl) (by kernel_rfl) (fun hl => let ⟨n, hn⟩ := spec_l10Up_ok (ρ := Ret) (fun r0 => some [⟨(.slice 3 (.int .i64)), r0⟩]) a0 hl.1 g; ⟨n, (a_spec_l10Up n a0).trans (hn n (Nat.le_refl n) (fun  m v0_0 v0_1 v0_2 => L_spec_l10Up_0 n  m (S_spec_l10Up_0 v0_0 v0_1 v0_2)) (fun  m v0_0 v0_1 v0_2 => b_spec_l10Up_0 n  m v0_0 v0_1 v0_2))⟩)
/-! spec.TopOf -/
abbrev G.spec_TopOf (l : List Int) : Bool := decide (l.length ≤ 1048576)
abbrev N.spec_TopOf (l : List Int) : Int := topOf l
def spec_TopOf_L0 {ρ : Type} (k : Int → Option ρ) (L0 : (List Int) → Option ρ) (v0_0 : (List Int)) : Option ρ := (cond (decide ((List.length v0_0 : Int) > (1 : Int))) (cond (G.spec_l10Up v0_0) (L0 (N.spec_l10Up v0_0)) none) (cond (inRange (0 : Int) (List.length v0_0)) (k (List.getD v0_0 0 (0 : Int))) none))
def spec_TopOf {ρ : Type} (k : Int → Option ρ) (L0 : (List Int) → Option ρ) (a0 : (List Int)) : Option ρ := (cond ((List.length a0 : Int) == (0 : Int)) (k (N.spec_Hash [(229 : Int)])) (L0 a0))
theorem spec_TopOf_ok {ρ : Type} (k : Int → Option ρ) (a0 : (List Int)) (l_a0 : lnL (fun _ => True) a0) (g : G.spec_TopOf a0 = true) : ∃ n0, ∀ n, n0 ≤ n → ∀ (L0 : Nat → (List Int) → Option ρ) (h0 : ∀ ( m : Nat) (v0_0 : (List Int)), L0 (m + 1) v0_0 = spec_TopOf_L0 k (L0 m) v0_0), spec_TopOf k (L0 n) a0 = k (N.spec_TopOf a0) := by
  unfold G.spec_TopOf at g
  have hlen : a0.length ≤ 1048576 := of_decide_eq_true g
  refine ⟨a0.length + 1, fun n hn L0 h0 => ?_⟩
  unfold spec_TopOf
  show _ = k (topOf a0)
  unfold topOf
  by_cases h : a0.length = 0
  · simp [h]
  · have e1 : ((a0.length : Int) == 0) = false := by simpa using h
    rw [e1, decide_eq_false h]
    refine raw_meas (L := fun m s => L0 m s) (R := fun s c => spec_TopOf_L0 k c s) (fun m s => h0 m s) (fun s => 0 < s.length ∧ s.length ≤ 1048576) (fun s => s.length) (fun s => k (topN s.length s)) (fun s c hI hc => ?_) n a0 ⟨by omega, hlen⟩ (by omega)
    unfold spec_TopOf_L0
    by_cases h1 : 1 < s.length
    · have e2 : decide ((s.length : Int) > 1) = true := by simp; omega
      have hu := up_len s
      have e3 : decide (s.length ≤ 1048576) = true := by simpa using hI.2
      have := hc (up s) ⟨by omega, by omega⟩ (by omega)
      simp only [e2, e3, cond_true, this]
      congr 1
      obtain ⟨q, hq⟩ : ∃ q, s.length = q + 1 := ⟨s.length - 1, by omega⟩
      rw [hq]
      show _ = cond (decide (1 < s.length)) (topN q (up s)) _
      rw [decide_eq_true h1]
      exact topN_more _ _ _ (by omega) (by omega)
    · have e2 : decide ((s.length : Int) > 1) = false := by simp; omega
      have e3 : inRange 0 s.length = true := by unfold inRange; simp; omega
      have e4 : s.length = 1 := by omega
      rw [e4] at e3
      simp [e2, e3, e4, topN]
def O_spec_TopOf : Orac := (orcX 38 [.val (.slice 3 (.int .i64))] (fun d => G.spec_l10Up d.1) (fun d => [⟨(.slice 3 (.int .i64)), N.spec_l10Up d.1⟩]) (orcX 37 [.val (.slice 3 (.int .i64))] (fun d => true) (fun d => [⟨(.int .i64), N.spec_Hash d.1⟩]) nilO))
theorem ok_spec_TopOf : OracOk Try.prog sigs O_spec_TopOf := (orcX_ok rfl (fun d g => said_spec_l10Up d.1 g) (orcX_ok rfl (fun d g => said_spec_Hash d.1) nilO_ok))
def A_spec_TopOf : Ann := fun b => cond (Nat.beq b 0) ⟨[(3, false)], []⟩ (⟨[], []⟩)
def S_spec_TopOf_0 (v0_0 : (List Int)) : St := [(kT 3, some (.tv (.v (.slice 3 (.int .i64)) v0_0 .no)))]
noncomputable def L_spec_TopOf_0 (n m : Nat) : St → Option Ret := loopOf tab sigs O_spec_TopOf A_spec_TopOf Try.f14 [((.int .i64), .no)] n (fun _ => 0) 0 m
theorem b_spec_TopOf_0 (n m : Nat) (v0_0 : (List Int)) : L_spec_TopOf_0 n (m + 1) (S_spec_TopOf_0 v0_0) = spec_TopOf_L0 (fun r0 => some [⟨(.int .i64), r0⟩]) (fun v0_0 => L_spec_TopOf_0 n m (S_spec_TopOf_0 v0_0)) v0_0 := by kernel_rfl
theorem a_spec_TopOf (n : Nat) (a0 : (List Int)) : absF tab sigs O_spec_TopOf A_spec_TopOf Try.f14 [((.int .i64), .no)] n [.val (.slice 3 (.int .i64)) a0] = spec_TopOf (fun r0 => some [⟨(.int .i64), r0⟩]) (fun v0_0 => L_spec_TopOf_0 n n (S_spec_TopOf_0 v0_0)) a0 := by kernel_rfl
theorem said_spec_TopOf (a0 : (List Int)) (g : G.spec_TopOf a0 = true) : Said Try.prog sigs_14 14 [.val (.slice 3 (.int .i64)) a0] [⟨(.int .i64), N.spec_TopOf a0⟩] := said_len (T := tab) (A := A_spec_TopOf) tabOk ok_spec_TopOf tabOk.follows Try.func14 (by kernel_rfl) (by kernel_rfl) (fun hl => let ⟨n, hn⟩ := spec_TopOf_ok (ρ := Ret) (fun r0 => some [⟨(.int .i64), r0⟩]) a0 hl.1 g; ⟨n, (a_spec_TopOf n a0).trans (hn n (Nat.le_refl n) (fun  m v0_0 => L_spec_TopOf_0 n  m (S_spec_TopOf_0 v0_0)) (fun  m v0_0 => b_spec_TopOf_0 n  m v0_0))⟩)
/-! impl.InRange -/
abbrev N.impl_InRange (n lo hi : Int) : Bool := inR n lo hi
def impl_InRange {ρ : Type} (k : Bool → Option ρ) (a0 : Int) (a1 : Int) (a2 : Int) : Option ρ := (cond (decide (a1 ≤ a0)) (k (decide (a0 ≤ a2))) (k false))
theorem impl_InRange_ok {ρ : Type} (k : Bool → Option ρ) (a0 : Int) (a1 : Int) (a2 : Int) : impl_InRange k  a0 a1 a2 = k (N.impl_InRange a0 a1 a2) := by
  simp only [impl_InRange, inR]
  cases decide (a1 ≤ a0) <;> rfl
def O_impl_InRange : Orac := nilO
theorem ok_impl_InRange : OracOk Try.prog sigs O_impl_InRange := nilO_ok
def A_impl_InRange : Ann := fun b => ⟨[], []⟩
theorem a_impl_InRange (n : Nat) (a0 : Int) (a1 : Int) (a2 : Int) : absF tab sigs O_impl_InRange A_impl_InRange Try.f43 [(.bool, .no)] n [.val (.int .i64) a0, .val (.int .i64) a1, .val (.int .i64) a2] = impl_InRange (fun r0 => some [⟨.bool, r0⟩])  a0 a1 a2 := by kernel_rfl
theorem said_impl_InRange (a0 : Int) (a1 : Int) (a2 : Int) : Said Try.prog sigs_43 43 [.val (.int .i64) a0, .val (.int .i64) a1, .val (.int .i64) a2] [⟨.bool, N.impl_InRange a0 a1 a2⟩] := said_len (T := tab) (A := A_impl_InRange) tabOk ok_impl_InRange tabOk.follows Try.func43 (by kernel_rfl) (by kernel_rfl) (fun hl => ⟨0, (a_impl_InRange 0 a0 a1 a2).trans (impl_InRange_ok (ρ := Ret) (fun r0 => some [⟨.bool, r0⟩]) a0 a1 a2)⟩)
/-! impl.Mod -/
abbrev N.impl_Mod (n m : Int) : Int := modM n m
def impl_Mod {ρ : Type} (k : Int → Option ρ) (a0 : Int) (a1 : Int) : Option ρ := (cond (!(N.impl_InRange a1 (1 : Int) (1000000000000 : Int))) (k (0 : Int)) (cond (!(decide (a1 = 0))) (cond (!(decide (a1 = 0))) (k (Int.tmod (IntKind.wrap .i64 ((Int.tmod a0 a1) + a1)) a1)) none) none))
theorem impl_Mod_ok {ρ : Type} (k : Int → Option ρ) (a0 : Int) (a1 : Int) : impl_Mod k  a0 a1 = k (N.impl_Mod a0 a1) := by
  simp only [impl_Mod, N.impl_InRange, modM]
  cases h : inR a1 1 1000000000000
  · rfl
  · have h1 : 1 ≤ a1 := by
      unfold inR at h
      simp only [Bool.and_eq_true, decide_eq_true_eq] at h
      exact h.1
    have h2 : decide (a1 = 0) = false := by simp; omega
    simp [h2]
def O_impl_Mod : Orac := (orcX 43 [.val (.int .i64), .val (.int .i64), .val (.int .i64)] (fun d => true) (fun d => [⟨.bool, N.impl_InRange d.1 d.2.1 d.2.2.1⟩]) nilO)
theorem ok_impl_Mod : OracOk Try.prog sigs O_impl_Mod := (orcX_ok rfl (fun d g => said_impl_InRange d.1 d.2.1 d.2.2.1) nilO_ok)
def A_impl_Mod : Ann := fun b => ⟨[], []⟩
theorem a_impl_Mod (n : Nat) (a0 : Int) (a1 : Int) : absF tab sigs O_impl_Mod A_impl_Mod Try.f49 [((.int .i64), .no)] n [.val (.int .i64) a0, .val (.int .i64) a1] = impl_Mod (fun r0 => some [⟨(.int .i64), r0⟩])  a0 a1 := by kernel_rfl
theorem said_impl_Mod (a0 : Int) (a1 : Int) : Said Try.prog sigs_49 49 [.val (.int .i64) a0, .val (.int .i64) a1] [⟨(.int .i64), N.impl_Mod a0 a1⟩] := said_len (T := tab) (A := A_impl_Mod) tabOk ok_impl_Mod tabOk.follows Try.func49 (by kernel_rfl) (by kernel_rfl) (fun hl => ⟨0, (a_impl_Mod 0 a0 a1).trans (impl_Mod_ok (ρ := Ret) (fun r0 => some [⟨(.int .i64), r0⟩]) a0 a1)⟩)
/-! impl.Hash -/
abbrev N.impl_Hash (l : List Int) : Int := hash l
def impl_Hash_L0 {ρ : Type} (k : Int → Option ρ) (L0 : Int → (List Int) → Int → Int → Option ρ) (v0_0 : Int) (v0_1 : (List Int)) (v0_2 : Int) (v0_3 : Int) : Option ρ := (cond (decide (v0_3 < v0_2)) (cond (inRange v0_3 (List.length v0_1)) (L0 (Int.tmod (IntKind.wrap .i64 ((IntKind.wrap .i64 ((IntKind.wrap .i64 (v0_0 * (1000003 : Int))) + (N.impl_Mod (List.getD v0_1 (Int.toNat v0_3) (0 : Int)) (2147483647 : Int)))) + (13 : Int))) (2147483647 : Int)) v0_1 v0_2 (IntKind.wrap .i64 (v0_3 + (1 : Int)))) none) (k v0_0))
def impl_Hash {ρ : Type} (k : Int → Option ρ) (L0 : Int → (List Int) → Int → Int → Option ρ) (a0 : (List Int)) : Option ρ := (L0 (11 : Int) a0 (List.length a0 : Int) (0 : Int))
theorem impl_Hash_ok {ρ : Type} (k : Int → Option ρ) (a0 : (List Int)) (l_a0 : lnL (fun _ => True) a0) : ∃ n0, ∀ n, n0 ≤ n → ∀ (L0 : Nat → Int → (List Int) → Int → Int → Option ρ) (h0 : ∀ ( m : Nat) (v0_0 : Int) (v0_1 : (List Int)) (v0_2 : Int) (v0_3 : Int), L0 (m + 1) v0_0 v0_1 v0_2 v0_3 = impl_Hash_L0 k (L0 m) v0_0 v0_1 v0_2 v0_3), impl_Hash k (L0 n) a0 = k (N.impl_Hash a0) := by
  refine ⟨a0.length + 1, fun n hn L0 h0 => ?_⟩
  refine raw_foldl (a := a0) 0 hashStep (k := k) (L := fun m i s => L0 m s a0 (a0.length : Int) i) (R := fun i s c => impl_Hash_L0 k (fun s _ _ i => c i s) s a0 (a0.length : Int) i) (fun m i s => h0 m s a0 (a0.length : Int) i) (fun _ _ => True) (fun j s c hj _ => ?_) (fun _ _ _ _ => trivial) (fun s c => ?_) hn trivial
  · have : j < big := by have := l_a0.1; omega
    simp [impl_Hash_L0, lt_nat, inRange_nat, hj, wrap_succ this, hashStep]
  · simp [impl_Hash_L0]
def O_impl_Hash : Orac := (orcX 49 [.val (.int .i64), .val (.int .i64)] (fun d => true) (fun d => [⟨(.int .i64), N.impl_Mod d.1 d.2.1⟩]) nilO)
theorem ok_impl_Hash : OracOk Try.prog sigs O_impl_Hash := (orcX_ok rfl (fun d g => said_impl_Mod d.1 d.2.1) nilO_ok)
def A_impl_Hash : Ann := fun b => cond (Nat.beq b 0) ⟨[(3, false), (6, false), (7, false), (8, false)], []⟩ (⟨[], []⟩)
def S_impl_Hash_0 (v0_0 : Int) (v0_1 : (List Int)) (v0_2 : Int) (v0_3 : Int) : St := [(kT 3, some (.tv (.v (.int .i64) v0_0 .no))), (kT 6, some (.tv (.v (.slice 3 (.int .i64)) v0_1 .no))), (kT 7, some (.tv (.v (.int .i64) v0_2 .no))), (kT 8, some (.tv (.v (.int .i64) v0_3 .no)))]
noncomputable def L_impl_Hash_0 (n m : Nat) : St → Option Ret := loopOf tab sigs O_impl_Hash A_impl_Hash Try.f46 [((.int .i64), .no)] n (fun _ => 0) 0 m
theorem b_impl_Hash_0 (n m : Nat) (v0_0 : Int) (v0_1 : (List Int)) (v0_2 : Int) (v0_3 : Int) : L_impl_Hash_0 n (m + 1) (S_impl_Hash_0 v0_0 v0_1 v0_2 v0_3) = impl_Hash_L0 (fun r0 => some [⟨(.int .i64), r0⟩]) (fun v0_0 v0_1 v0_2 v0_3 => L_impl_Hash_0 n m (S_impl_Hash_0 v0_0 v0_1 v0_2 v0_3)) v0_0 v0_1 v0_2 v0_3 := by kernel_rfl
theorem a_impl_Hash (n : Nat) (a0 : (List Int)) : absF tab sigs O_impl_Hash A_impl_Hash Try.f46 [((.int .i64), .no)] n [.val (.slice 3 (.int .i64)) a0] = impl_Hash (fun r0 => some [⟨(.int .i64), r0⟩]) (fun v0_0 v0_1 v0_2 v0_3 => L_impl_Hash_0 n n (S_impl_Hash_0 v0_0 v0_1 v0_2 v0_3)) a0 := by kernel_rfl
theorem said_impl_Hash (a0 : (List Int)) : Said Try.prog sigs_46 46 [.val (.slice 3 (.int .i64)) a0] [⟨(.int .i64), N.impl_Hash a0⟩] := said_len (T := tab) (A := A_impl_Hash) tabOk ok_impl_Hash tabOk.follows Try.func46 (by kernel_rfl) (by kernel_rfl) (fun hl => let ⟨n, hn⟩ := impl_Hash_ok (ρ := Ret) (fun r0 => some [⟨(.int .i64), r0⟩]) a0 hl.1; ⟨n, (a_impl_Hash n a0).trans (hn n (Nat.le_refl n) (fun  m v0_0 v0_1 v0_2 v0_3 => L_impl_Hash_0 n  m (S_impl_Hash_0 v0_0 v0_1 v0_2 v0_3)) (fun  m v0_0 v0_1 v0_2 v0_3 => b_impl_Hash_0 n  m v0_0 v0_1 v0_2 v0_3))⟩)
/-! impl.hash -/
abbrev N.impl_hash (l : List Int) : Int := hash l
def impl_hash {ρ : Type} (k : Int → Option ρ) (a0 : (List Int)) : Option ρ := (k (N.impl_Hash a0))
theorem impl_hash_ok {ρ : Type} (k : Int → Option ρ) (a0 : (List Int)) (l_a0 : lnL (fun _ => True) a0) : impl_hash k  a0 = k (N.impl_hash a0) := by
  rfl
def O_impl_hash : Orac := (orcX 46 [.val (.slice 3 (.int .i64))] (fun d => true) (fun d => [⟨(.int .i64), N.impl_Hash d.1⟩]) nilO)
theorem ok_impl_hash : OracOk Try.prog sigs O_impl_hash := (orcX_ok rfl (fun d g => said_impl_Hash d.1) nilO_ok)
def A_impl_hash : Ann := fun b => ⟨[], []⟩
theorem a_impl_hash (n : Nat) (a0 : (List Int)) : absF tab sigs O_impl_hash A_impl_hash Try.f39 [((.int .i64), .no)] n [.val (.slice 3 (.int .i64)) a0] = impl_hash (fun r0 => some [⟨(.int .i64), r0⟩])  a0 := by kernel_rfl
theorem said_impl_hash (a0 : (List Int)) : Said Try.prog sigs_39 39 [.val (.slice 3 (.int .i64)) a0] [⟨(.int .i64), N.impl_hash a0⟩] := said_len (T := tab) (A := A_impl_hash) tabOk ok_impl_hash tabOk.follows Try.func39 (by kernel_rfl) (by kernel_rfl) (fun hl => ⟨0, (a_impl_hash 0 a0).trans (impl_hash_ok (ρ := Ret) (fun r0 => some [⟨(.int .i64), r0⟩]) a0 hl.1)⟩)
/-! impl.NodeOf -/
abbrev N.impl_NodeOf (a b : Int) : Int := nodeOf a b
def impl_NodeOf {ρ : Type} (k : Int → Option ρ) (a0 : Int) (a1 : Int) : Option ρ := (k (N.impl_hash [(229 : Int), a0, a1]))
theorem impl_NodeOf_ok {ρ : Type} (k : Int → Option ρ) (a0 : Int) (a1 : Int) : impl_NodeOf k  a0 a1 = k (N.impl_NodeOf a0 a1) := by
  rfl
def O_impl_NodeOf : Orac := (orcX 39 [.val (.slice 3 (.int .i64))] (fun d => true) (fun d => [⟨(.int .i64), N.impl_hash d.1⟩]) nilO)
theorem ok_impl_NodeOf : OracOk Try.prog sigs O_impl_NodeOf := (orcX_ok rfl (fun d g => said_impl_hash d.1) nilO_ok)
def A_impl_NodeOf : Ann := fun b => ⟨[], []⟩
theorem a_impl_NodeOf (n : Nat) (a0 : Int) (a1 : Int) : absF tab sigs O_impl_NodeOf A_impl_NodeOf Try.f44 [((.int .i64), .no)] n [.val (.int .i64) a0, .val (.int .i64) a1] = impl_NodeOf (fun r0 => some [⟨(.int .i64), r0⟩])  a0 a1 := by kernel_rfl
theorem said_impl_NodeOf (a0 : Int) (a1 : Int) : Said Try.prog sigs_44 44 [.val (.int .i64) a0, .val (.int .i64) a1] [⟨(.int .i64), N.impl_NodeOf a0 a1⟩] := said_len (T := tab) (A := A_impl_NodeOf) tabOk ok_impl_NodeOf tabOk.follows Try.func44 (by kernel_rfl) (by kernel_rfl) (fun hl => ⟨0, (a_impl_NodeOf 0 a0 a1).trans (impl_NodeOf_ok (ρ := Ret) (fun r0 => some [⟨(.int .i64), r0⟩]) a0 a1)⟩)
/-! impl.above -/
abbrev G.impl_above (l : List Int) : Bool := decide (l.length ≤ 1048576)
abbrev N.impl_above (l : List Int) : List Int := up l
def impl_above_L0 {ρ : Type} (k : (List Int) → Option ρ) (L0 : (List Int) → Int → (List Int) → Option ρ) (v0_0 : (List Int)) (v0_1 : Int) (v0_2 : (List Int)) : Option ρ := (cond (decide (v0_1 < (List.length v0_0 : Int))) (cond (decide ((IntKind.wrap .i64 (v0_1 + (1 : Int))) < (List.length v0_0 : Int))) (cond (inRange v0_1 (List.length v0_0)) (cond (inRange (IntKind.wrap .i64 (v0_1 + (1 : Int))) (List.length v0_0)) (cond (fit (List.length v0_2) (List.length [(N.impl_NodeOf (List.getD v0_0 (Int.toNat v0_1) (0 : Int)) (List.getD v0_0 (Int.toNat (IntKind.wrap .i64 (v0_1 + (1 : Int)))) (0 : Int)))])) (L0 v0_0 (IntKind.wrap .i64 (v0_1 + (2 : Int))) (List.append v0_2 [(N.impl_NodeOf (List.getD v0_0 (Int.toNat v0_1) (0 : Int)) (List.getD v0_0 (Int.toNat (IntKind.wrap .i64 (v0_1 + (1 : Int)))) (0 : Int)))])) none) none) none) (cond (inRange v0_1 (List.length v0_0)) (cond (fit (List.length v0_2) (List.length [(List.getD v0_0 (Int.toNat v0_1) (0 : Int))])) (L0 v0_0 (IntKind.wrap .i64 (v0_1 + (2 : Int))) (List.append v0_2 [(List.getD v0_0 (Int.toNat v0_1) (0 : Int))])) none) none)) (k v0_2))
def impl_above {ρ : Type} (k : (List Int) → Option ρ) (L0 : (List Int) → Int → (List Int) → Option ρ) (a0 : (List Int)) : Option ρ := (L0 a0 (0 : Int) [])
theorem impl_above_ok {ρ : Type} (k : (List Int) → Option ρ) (a0 : (List Int)) (l_a0 : lnL (fun _ => True) a0) (g : G.impl_above a0 = true) : ∃ n0, ∀ n, n0 ≤ n → ∀ (L0 : Nat → (List Int) → Int → (List Int) → Option ρ) (h0 : ∀ ( m : Nat) (v0_0 : (List Int)) (v0_1 : Int) (v0_2 : (List Int)), L0 (m + 1) v0_0 v0_1 v0_2 = impl_above_L0 k (L0 m) v0_0 v0_1 v0_2), impl_above k (L0 n) a0 = k (N.impl_above a0) := by
  unfold G.impl_above at g
  exact spec_l10Up_ok k a0 l_a0 g
def O_impl_above : Orac := (orcX 44 [.val (.int .i64), .val (.int .i64)] (fun d => true) (fun d => [⟨(.int .i64), N.impl_NodeOf d.1 d.2.1⟩]) nilO)
theorem ok_impl_above : OracOk Try.prog sigs O_impl_above := (orcX_ok rfl (fun d g => said_impl_NodeOf d.1 d.2.1) nilO_ok)
def A_impl_above : Ann := fun b => cond (Nat.beq b 0) ⟨[(0, false), (3, true), (4, false)], []⟩ (⟨[], []⟩)
def S_impl_above_0 (v0_0 : (List Int)) (v0_1 : Int) (v0_2 : (List Int)) : St := [(kT 0, some (.tv (.v (.slice 3 (.int .i64)) v0_0 .no))), (kT 3, some (.tv (.v (.slice 3 (.int .i64)) [] (.own 24)))), (kT 4, some (.tv (.v (.int .i64) v0_1 .no))), (kR 24, some (.row 3 (.int .i64) v0_2))]
noncomputable def L_impl_above_0 (n m : Nat) : St → Option Ret := loopOf tab sigs O_impl_above A_impl_above Try.f40 [((.slice 3 (.int .i64)), (.own 0))] n (fun _ => 0) 0 m
theorem b_impl_above_0 (n m : Nat) (v0_0 : (List Int)) (v0_1 : Int) (v0_2 : (List Int)) : L_impl_above_0 n (m + 1) (S_impl_above_0 v0_0 v0_1 v0_2) = impl_above_L0 (fun r0 => some [⟨(.slice 3 (.int .i64)), r0⟩]) (fun v0_0 v0_1 v0_2 => L_impl_above_0 n m (S_impl_above_0 v0_0 v0_1 v0_2)) v0_0 v0_1 v0_2 := by kernel_rfl
theorem a_impl_above (n : Nat) (a0 : (List Int)) : absF tab sigs O_impl_above A_impl_above Try.f40 [((.slice 3 (.int .i64)), (.own 0))] n [.val (.slice 3 (.int .i64)) a0] = impl_above (fun r0 => some [⟨(.slice 3 (.int .i64)), r0⟩]) (fun v0_0 v0_1 v0_2 => L_impl_above_0 n n (S_impl_above_0 v0_0 v0_1 v0_2)) a0 := by kernel_rfl
theorem said_impl_above (a0 : (List Int)) (g : G.impl_above a0 = true) : Said Try.prog sigs_40 40 [.val (.slice 3 (.int .i64)) a0] [⟨(.slice 3 (.int .i64)), N.impl_above a0⟩] := said_len (T := tab) (A := A_impl_above) tabOk ok_impl_above tabOk.follows Try.func40 (by kernel_rfl) (by kernel_rfl) (fun hl => let ⟨n, hn⟩ := impl_above_ok (ρ := Ret) (fun r0 => some [⟨(.slice 3 (.int .i64)), r0⟩]) a0 hl.1 g; ⟨n, (a_impl_above n a0).trans (hn n (Nat.le_refl n) (fun  m v0_0 v0_1 v0_2 => L_impl_above_0 n  m (S_impl_above_0 v0_0 v0_1 v0_2)) (fun  m v0_0 v0_1 v0_2 => b_impl_above_0 n  m v0_0 v0_1 v0_2))⟩)
/-! impl.TopOf -/
abbrev G.impl_TopOf (l : List Int) : Bool := decide (l.length ≤ 1048576)
abbrev N.impl_TopOf (l : List Int) : Int := topOf l
def impl_TopOf_L0 {ρ : Type} (k : Int → Option ρ) (L0 : (List Int) → Option ρ) (v0_0 : (List Int)) : Option ρ := (cond (decide ((List.length v0_0 : Int) > (1 : Int))) (cond (G.impl_above v0_0) (L0 (N.impl_above v0_0)) none) (cond (inRange (0 : Int) (List.length v0_0)) (k (List.getD v0_0 0 (0 : Int))) none))
def impl_TopOf {ρ : Type} (k : Int → Option ρ) (L0 : (List Int) → Option ρ) (a0 : (List Int)) : Option ρ := (cond ((List.length a0 : Int) == (0 : Int)) (k (N.impl_hash [(229 : Int)])) (L0 a0))
theorem impl_TopOf_ok {ρ : Type} (k : Int → Option ρ) (a0 : (List Int)) (l_a0 : lnL (fun _ => True) a0) (g : G.impl_TopOf a0 = true) : ∃ n0, ∀ n, n0 ≤ n → ∀ (L0 : Nat → (List Int) → Option ρ) (h0 : ∀ ( m : Nat) (v0_0 : (List Int)), L0 (m + 1) v0_0 = impl_TopOf_L0 k (L0 m) v0_0), impl_TopOf k (L0 n) a0 = k (N.impl_TopOf a0) := by
  unfold G.impl_TopOf at g
  exact spec_TopOf_ok k a0 l_a0 g
def O_impl_TopOf : Orac := (orcX 40 [.val (.slice 3 (.int .i64))] (fun d => G.impl_above d.1) (fun d => [⟨(.slice 3 (.int .i64)), N.impl_above d.1⟩]) (orcX 39 [.val (.slice 3 (.int .i64))] (fun d => true) (fun d => [⟨(.int .i64), N.impl_hash d.1⟩]) nilO))
theorem ok_impl_TopOf : OracOk Try.prog sigs O_impl_TopOf := (orcX_ok rfl (fun d g => said_impl_above d.1 g) (orcX_ok rfl (fun d g => said_impl_hash d.1) nilO_ok))
def A_impl_TopOf : Ann := fun b => cond (Nat.beq b 0) ⟨[(0, false)], []⟩ (⟨[], []⟩)
def S_impl_TopOf_0 (v0_0 : (List Int)) : St := [(kT 0, some (.tv (.v (.slice 3 (.int .i64)) v0_0 .no)))]
noncomputable def L_impl_TopOf_0 (n m : Nat) : St → Option Ret := loopOf tab sigs O_impl_TopOf A_impl_TopOf Try.f16 [((.int .i64), .no)] n (fun _ => 0) 0 m
theorem b_impl_TopOf_0 (n m : Nat) (v0_0 : (List Int)) : L_impl_TopOf_0 n (m + 1) (S_impl_TopOf_0 v0_0) = impl_TopOf_L0 (fun r0 => some [⟨(.int .i64), r0⟩]) (fun v0_0 => L_impl_TopOf_0 n m (S_impl_TopOf_0 v0_0)) v0_0 := by kernel_rfl
theorem a_impl_TopOf (n : Nat) (a0 : (List Int)) : absF tab sigs O_impl_TopOf A_impl_TopOf Try.f16 [((.int .i64), .no)] n [.val (.slice 3 (.int .i64)) a0] = impl_TopOf (fun r0 => some [⟨(.int .i64), r0⟩]) (fun v0_0 => L_impl_TopOf_0 n n (S_impl_TopOf_0 v0_0)) a0 := by kernel_rfl
theorem said_impl_TopOf (a0 : (List Int)) (g : G.impl_TopOf a0 = true) : Said Try.prog sigs_16 16 [.val (.slice 3 (.int .i64)) a0] [⟨(.int .i64), N.impl_TopOf a0⟩] := said_len (T := tab) (A := A_impl_TopOf) tabOk ok_impl_TopOf tabOk.follows Try.func16 (by kernel_rfl) (by kernel_rfl) (fun hl => let ⟨n, hn⟩ := impl_TopOf_ok (ρ := Ret) (fun r0 => some [⟨(.int .i64), r0⟩]) a0 hl.1 g; ⟨n, (a_impl_TopOf n a0).trans (hn n (Nat.le_refl n) (fun  m v0_0 => L_impl_TopOf_0 n  m (S_impl_TopOf_0 v0_0)) (fun  m v0_0 => b_impl_TopOf_0 n  m v0_0))⟩)
/-! spec.TopFrom -/
abbrev N.spec_TopFrom (leaf i n : Int) (path : List Int) : Int × Bool := topFrom leaf i n path
def spec_TopFrom_L0 {ρ : Type} (k : Int → Bool → Option ρ) (L0 : Int → Int → Int → (List Int) → Int → Option ρ) (v0_0 : Int) (v0_1 : Int) (v0_2 : Int) (v0_3 : (List Int)) (v0_4 : Int) : Option ρ := (cond (decide (v0_2 > (1 : Int))) (cond ((Int.tmod v0_1 (2 : Int)) == (1 : Int)) (cond (decide (v0_4 ≥ (List.length v0_3 : Int))) (k (0 : Int) false) (cond ((Int.tmod v0_1 (2 : Int)) == (1 : Int)) (cond (inRange v0_4 (List.length v0_3)) (L0 (N.spec_NodeOf (List.getD v0_3 (Int.toNat v0_4) (0 : Int)) v0_0) (IntKind.wrap .i64 (Int.tdiv v0_1 (2 : Int))) (IntKind.wrap .i64 (Int.tdiv (IntKind.wrap .i64 (v0_2 + (1 : Int))) (2 : Int))) v0_3 (IntKind.wrap .i64 (v0_4 + (1 : Int)))) none) (cond (inRange v0_4 (List.length v0_3)) (L0 (N.spec_NodeOf v0_0 (List.getD v0_3 (Int.toNat v0_4) (0 : Int))) (IntKind.wrap .i64 (Int.tdiv v0_1 (2 : Int))) (IntKind.wrap .i64 (Int.tdiv (IntKind.wrap .i64 (v0_2 + (1 : Int))) (2 : Int))) v0_3 (IntKind.wrap .i64 (v0_4 + (1 : Int)))) none))) (cond (decide ((IntKind.wrap .i64 (v0_1 + (1 : Int))) < v0_2)) (cond (decide (v0_4 ≥ (List.length v0_3 : Int))) (k (0 : Int) false) (cond ((Int.tmod v0_1 (2 : Int)) == (1 : Int)) (cond (inRange v0_4 (List.length v0_3)) (L0 (N.spec_NodeOf (List.getD v0_3 (Int.toNat v0_4) (0 : Int)) v0_0) (IntKind.wrap .i64 (Int.tdiv v0_1 (2 : Int))) (IntKind.wrap .i64 (Int.tdiv (IntKind.wrap .i64 (v0_2 + (1 : Int))) (2 : Int))) v0_3 (IntKind.wrap .i64 (v0_4 + (1 : Int)))) none) (cond (inRange v0_4 (List.length v0_3)) (L0 (N.spec_NodeOf v0_0 (List.getD v0_3 (Int.toNat v0_4) (0 : Int))) (IntKind.wrap .i64 (Int.tdiv v0_1 (2 : Int))) (IntKind.wrap .i64 (Int.tdiv (IntKind.wrap .i64 (v0_2 + (1 : Int))) (2 : Int))) v0_3 (IntKind.wrap .i64 (v0_4 + (1 : Int)))) none))) (L0 v0_0 (IntKind.wrap .i64 (Int.tdiv v0_1 (2 : Int))) (IntKind.wrap .i64 (Int.tdiv (IntKind.wrap .i64 (v0_2 + (1 : Int))) (2 : Int))) v0_3 v0_4))) (cond (v0_4 != (List.length v0_3 : Int)) (k (0 : Int) false) (k v0_0 true)))
def spec_TopFrom {ρ : Type} (k : Int → Bool → Option ρ) (L0 : Int → Int → Int → (List Int) → Int → Option ρ) (a0 : Int) (a1 : Int) (a2 : Int) (a3 : (List Int)) : Option ρ := (cond (!(N.spec_l1In a2 (1 : Int) (12 : Int))) (k (0 : Int) false) (cond (!(N.spec_l1In a1 (0 : Int) (IntKind.wrap .i64 (a2 - (1 : Int))))) (k (0 : Int) false) (L0 a0 a1 a2 a3 (0 : Int))))
theorem spec_TopFrom_ok {ρ : Type} (k : Int → Bool → Option ρ) (a0 : Int) (a1 : Int) (a2 : Int) (a3 : (List Int)) (l_a3 : lnL (fun _ => True) a3) : ∃ n0, ∀ n, n0 ≤ n → ∀ (L0 : Nat → Int → Int → Int → (List Int) → Int → Option ρ) (h0 : ∀ ( m : Nat) (v0_0 : Int) (v0_1 : Int) (v0_2 : Int) (v0_3 : (List Int)) (v0_4 : Int), L0 (m + 1) v0_0 v0_1 v0_2 v0_3 v0_4 = spec_TopFrom_L0 k (L0 m) v0_0 v0_1 v0_2 v0_3 v0_4), spec_TopFrom k (L0 n) a0 a1 a2 a3 = k (N.spec_TopFrom a0 a1 a2 a3).1 (N.spec_TopFrom a0 a1 a2 a3).2 := by
  refine ⟨a2.toNat + 1, fun n hn L0 h0 => ?_⟩
  show spec_TopFrom k (L0 n) a0 a1 a2 a3 = k (topFrom a0 a1 a2 a3).1 (topFrom a0 a1 a2 a3).2
  unfold spec_TopFrom topFrom
  dsimp only [N.spec_l1In]
  cases hn1 : inR a2 1 12 with
  | false => rfl
  | true =>
    have hn2 : 1 ≤ a2 ∧ a2 ≤ 12 := by simpa [inR] using hn1
    rw [wrap_id (n := a2 - 1) (by omega) (by omega)]
    cases hi1 : inR a1 0 (a2 - 1) with
    | false => rfl
    | true =>
      have hi2 : 0 ≤ a1 ∧ a1 ≤ a2 - 1 := by simpa [inR] using hi1
      show L0 n a0 a1 a2 a3 0 = k (tfRes (tfN a2.toNat a0 a1.toNat a2.toNat a3)).1 (tfRes (tfN a2.toNat a0 a1.toNat a2.toNat a3)).2
      refine raw_meas (σ := Int × Int × Int × Int) (L := fun m s => L0 m s.1 s.2.1 s.2.2.1 a3 s.2.2.2) (R := fun s c => spec_TopFrom_L0 k (fun l i n _ u => c (l, i, n, u)) s.1 s.2.1 s.2.2.1 a3 s.2.2.2)
        (fun m s => h0 m _ _ _ _ _) (fun s => 0 ≤ s.2.1 ∧ 1 ≤ s.2.2.1 ∧ s.2.2.1 ≤ 12 ∧ s.2.1 < s.2.2.1 ∧ 0 ≤ s.2.2.2 ∧ s.2.2.2 ≤ a3.length) (fun s => s.2.2.1.toNat) (fun s => k (tfRes (tfN s.2.2.1.toNat s.1 s.2.1.toNat s.2.2.1.toNat (a3.drop s.2.2.2.toNat))).1 (tfRes (tfN s.2.2.1.toNat s.1 s.2.1.toNat s.2.2.1.toNat (a3.drop s.2.2.2.toNat))).2) (fun s c hI hc => ?_) n (a0, a1, a2, 0) ⟨hi2.1, hn2.1, hn2.2, by dsimp only; omega, Int.le_refl 0, by dsimp only; omega⟩ (by dsimp only; omega)
      obtain ⟨l, i, q, u⟩ := s
      obtain ⟨b0, b1, b2, b3, b4, b5⟩ := hI
      dsimp only at b0 b1 b2 b3 b4 b5 hc ⊢
      obtain ⟨i, rfl⟩ := Int.eq_ofNat_of_zero_le b0
      obtain ⟨q, rfl⟩ := Int.eq_ofNat_of_zero_le (a := q) (by omega)
      obtain ⟨u, rfl⟩ := Int.eq_ofNat_of_zero_le b4
      simp only [Int.toNat_natCast] at hc ⊢
      have l3 : a3.length ≤ 9223372036854775807 := l_a3.1
      by_cases h1 : 1 < q
      · obtain ⟨f, rfl⟩ : ∃ f, q = f + 1 := ⟨q - 1, by omega⟩
        have e1 : decide (((f + 1 : Nat) : Int) > 1) = true := by simp; omega
        have t3 : IntKind.wrap .i64 (Int.tdiv (IntKind.wrap .i64 (((f + 1 : Nat) : Int) + 1)) 2) = (((f + 1 + 1) / 2 : Nat) : Int) := by rw [wrap_succ (by unfold big; omega), tdiv2 (by omega)]
        have t4 : u < a3.length → IntKind.wrap .i64 ((u : Int) + 1) = ((u + 1 : Nat) : Int) := fun h => wrap_succ (by unfold big; omega)
        have t5 : IntKind.wrap .i64 ((i : Int) + 1) = ((i + 1 : Nat) : Int) := wrap_succ (by unfold big; omega)
        have hfuel : ∀ leaf path, tfN ((f + 1 + 1) / 2) leaf (i / 2) ((f + 1 + 1) / 2) path = tfN f leaf (i / 2) ((f + 1 + 1) / 2) path := fun leaf path => tfN_more _ _ _ _ _ _ (by omega) (by omega)
        have step : ∀ leaf u', u' ≤ a3.length → c (leaf, ((i / 2 : Nat) : Int), (((f + 1 + 1) / 2 : Nat) : Int), (u' : Int)) = k (tfRes (tfN f leaf (i / 2) ((f + 1 + 1) / 2) (a3.drop u'))).1 (tfRes (tfN f leaf (i / 2) ((f + 1 + 1) / 2) (a3.drop u'))).2 := by
          intro leaf u' hu'
          have := hc (leaf, ((i / 2 : Nat) : Int), (((f + 1 + 1) / 2 : Nat) : Int), (u' : Int)) ⟨by simp; omega, by simp; omega, by simp; omega, by simp; omega, by simp, by simp; omega⟩ (by simp; omega)
          simp only [Int.toNat_natCast] at this
          rw [this, hfuel]
        unfold tfN
        rw [decide_eq_true h1]
        by_cases hodd : i % 2 = 1
        · have o1 : (((i % 2 : Nat) : Int) == 1) = true := by rw [hodd]; rfl
          have o2 : decide (sib i < f + 1) = true := by unfold sib; rw [if_neg (by omega)]; simp; omega
          have o3 : decide (i % 2 = 0) = false := by simp; omega
          by_cases hu : u < a3.length
          · have e5 : decide ((u : Int) ≥ (a3.length : Int)) = false := by simp; omega
            rw [drop_cons 0 hu]
            simp only [spec_TopFrom_L0, e1, tmod2, o1, o2, o3, e5, cond_true, cond_false, inRange_nat, decide_eq_true hu, tdiv2 (i := i) (by omega), t3, t4 hu, Int.toNat_natCast, step _ (u + 1) (by omega)]
          · have e5 : decide ((u : Int) ≥ (a3.length : Int)) = true := by simp; omega
            rw [List.drop_of_length_le (by omega)]
            simp only [spec_TopFrom_L0, e1, tmod2, o1, o2, o3, e5, cond_true, cond_false]
            rfl
        · have o1 : (((i % 2 : Nat) : Int) == 1) = false := by
            have o4 : i % 2 = 0 := by omega
            rw [o4]; rfl
          have o3 : decide (i % 2 = 0) = true := by simp; omega
          by_cases hlt : i + 1 < f + 1
          · have o2 : decide (sib i < f + 1) = true := by unfold sib; rw [if_pos (by omega)]; simpa using hlt
            by_cases hu : u < a3.length
            · have e5 : decide ((u : Int) ≥ (a3.length : Int)) = false := by simp; omega
              rw [drop_cons 0 hu]
              simp only [spec_TopFrom_L0, e1, tmod2, o1, o2, o3, e5, t5, lt_nat, decide_eq_true hlt, cond_true, cond_false, inRange_nat, decide_eq_true hu, tdiv2 (i := i) (by omega), t3, t4 hu, Int.toNat_natCast, step _ (u + 1) (by omega)]
            · have e5 : decide ((u : Int) ≥ (a3.length : Int)) = true := by simp; omega
              rw [List.drop_of_length_le (by omega)]
              simp only [spec_TopFrom_L0, e1, tmod2, o1, o2, o3, e5, t5, lt_nat, decide_eq_true hlt, cond_true, cond_false]
              rfl
          · have o2 : decide (sib i < f + 1) = false := by unfold sib; rw [if_pos (by omega)]; simpa using hlt
            simp only [spec_TopFrom_L0, e1, tmod2, o1, o2, t5, lt_nat, decide_eq_false hlt, cond_true, cond_false, tdiv2 (i := i) (by omega), t3, step _ u (by omega)]
      · have e1 : decide ((q : Int) > 1) = false := by simp; omega
        have e2 : q = 1 := by omega
        subst e2
        unfold tfN
        by_cases hu : u < a3.length
        · have e3 : ((u : Int) != (a3.length : Int)) = true := by simp; omega
          have e4 : ((a3.drop u).length == 0) = false := by rw [List.length_drop]; simp; omega
          simp only [spec_TopFrom_L0, e1, e3, e4, cond_true, cond_false]
          rfl
        · have e3 : ((u : Int) != (a3.length : Int)) = false := by simp; omega
          have e4 : ((a3.drop u).length == 0) = true := by rw [List.length_drop]; simp; omega
          simp only [spec_TopFrom_L0, e1, e3, e4, cond_true, cond_false]
          rfl
def O_spec_TopFrom : Orac := (orcX 42 [.val (.int .i64), .val (.int .i64)] (fun d => true) (fun d => [⟨(.int .i64), N.spec_NodeOf d.1 d.2.1⟩]) (orcX 41 [.val (.int .i64), .val (.int .i64), .val (.int .i64)] (fun d => true) (fun d => [⟨.bool, N.spec_l1In d.1 d.2.1 d.2.2.1⟩]) nilO))
theorem ok_spec_TopFrom : OracOk Try.prog sigs O_spec_TopFrom := (orcX_ok rfl (fun d g => said_spec_NodeOf d.1 d.2.1) (orcX_ok rfl (fun d g => said_spec_l1In d.1 d.2.1 d.2.2.1) nilO_ok))
def A_spec_TopFrom : Ann := fun b => cond (Nat.beq b 0) ⟨[(0, false), (1, false), (2, false), (3, false), (10, false)], []⟩ (⟨[], []⟩)
def S_spec_TopFrom_0 (v0_0 : Int) (v0_1 : Int) (v0_2 : Int) (v0_3 : (List Int)) (v0_4 : Int) : St := [(kT 0, some (.tv (.v (.int .i64) v0_0 .no))), (kT 1, some (.tv (.v (.int .i64) v0_1 .no))), (kT 2, some (.tv (.v (.int .i64) v0_2 .no))), (kT 3, some (.tv (.v (.slice 3 (.int .i64)) v0_3 .no))), (kT 10, some (.tv (.v (.int .i64) v0_4 .no)))]
noncomputable def L_spec_TopFrom_0 (n m : Nat) : St → Option Ret := loopOf tab sigs O_spec_TopFrom A_spec_TopFrom Try.f18 [((.int .i64), .no), (.bool, .no)] n (fun _ => 0) 0 m
theorem b_spec_TopFrom_0 (n m : Nat) (v0_0 : Int) (v0_1 : Int) (v0_2 : Int) (v0_3 : (List Int)) (v0_4 : Int) : L_spec_TopFrom_0 n (m + 1) (S_spec_TopFrom_0 v0_0 v0_1 v0_2 v0_3 v0_4) = spec_TopFrom_L0 (fun r0 r1 => some [⟨(.int .i64), r0⟩, ⟨.bool, r1⟩]) (fun v0_0 v0_1 v0_2 v0_3 v0_4 => L_spec_TopFrom_0 n m (S_spec_TopFrom_0 v0_0 v0_1 v0_2 v0_3 v0_4)) v0_0 v0_1 v0_2 v0_3 v0_4 := by kernel_rfl
theorem a_spec_TopFrom (n : Nat) (a0 : Int) (a1 : Int) (a2 : Int) (a3 : (List Int)) : absF tab sigs O_spec_TopFrom A_spec_TopFrom Try.f18 [((.int .i64), .no), (.bool, .no)] n [.val (.int .i64) a0, .val (.int .i64) a1, .val (.int .i64) a2, .val (.slice 3 (.int .i64)) a3] = spec_TopFrom (fun r0 r1 => some [⟨(.int .i64), r0⟩, ⟨.bool, r1⟩]) (fun v0_0 v0_1 v0_2 v0_3 v0_4 => L_spec_TopFrom_0 n n (S_spec_TopFrom_0 v0_0 v0_1 v0_2 v0_3 v0_4)) a0 a1 a2 a3 := by kernel_rfl
theorem said_spec_TopFrom (a0 : Int) (a1 : Int) (a2 : Int) (a3 : (List Int)) : Said Try.prog sigs_18 18 [.val (.int .i64) a0, .val (.int .i64) a1, .val (.int .i64) a2, .val (.slice 3 (.int .i64)) a3] [⟨(.int .i64), (N.spec_TopFrom a0 a1 a2 a3).1⟩, ⟨.bool, (N.spec_TopFrom a0 a1 a2 a3).2⟩] := said_len (T := tab) (A := A_spec_TopFrom) tabOk ok_spec_TopFrom tabOk.follows Try.func18 (by kernel_rfl) (by kernel_rfl) (fun hl => let ⟨n, hn⟩ := spec_TopFrom_ok (ρ := Ret) (fun r0 r1 => some [⟨(.int .i64), r0⟩, ⟨.bool, r1⟩]) a0 a1 a2 a3 hl.2.2.2.1; ⟨n, (a_spec_TopFrom n a0 a1 a2 a3).trans (hn n (Nat.le_refl n) (fun  m v0_0 v0_1 v0_2 v0_3 v0_4 => L_spec_TopFrom_0 n  m (S_spec_TopFrom_0 v0_0 v0_1 v0_2 v0_3 v0_4)) (fun  m v0_0 v0_1 v0_2 v0_3 v0_4 => b_spec_TopFrom_0 n  m v0_0 v0_1 v0_2 v0_3 v0_4))⟩)
/-! impl.TopFrom -/
abbrev N.impl_TopFrom (leaf i n : Int) (path : List Int) : Int × Bool := topFrom leaf i n path
def impl_TopFrom_L0 {ρ : Type} (k : Int → Bool → Option ρ) (L0 : Int → Int → Int → (List Int) → Option ρ) (v0_0 : Int) (v0_1 : Int) (v0_2 : Int) (v0_3 : (List Int)) : Option ρ := (cond (decide (v0_2 > (1 : Int))) (cond (decide ((xorI .i64 v0_1 (1 : Int)) ≥ v0_2)) (L0 v0_0 (IntKind.wrap .i64 (Int.tdiv v0_1 (2 : Int))) (IntKind.wrap .i64 (Int.tdiv (IntKind.wrap .i64 (v0_2 + (1 : Int))) (2 : Int))) v0_3) (cond ((List.length v0_3 : Int) == (0 : Int)) (k (0 : Int) false) (cond ((Int.tmod v0_1 (2 : Int)) == (0 : Int)) (cond (inRange (0 : Int) (List.length v0_3)) (cond (decide ((1 : Int) ≤ (List.length v0_3 : Int))) (L0 (N.impl_NodeOf v0_0 (List.getD v0_3 0 (0 : Int))) (IntKind.wrap .i64 (Int.tdiv v0_1 (2 : Int))) (IntKind.wrap .i64 (Int.tdiv (IntKind.wrap .i64 (v0_2 + (1 : Int))) (2 : Int))) (List.drop 1 v0_3)) none) none) (cond (inRange (0 : Int) (List.length v0_3)) (cond (decide ((1 : Int) ≤ (List.length v0_3 : Int))) (L0 (N.impl_NodeOf (List.getD v0_3 0 (0 : Int)) v0_0) (IntKind.wrap .i64 (Int.tdiv v0_1 (2 : Int))) (IntKind.wrap .i64 (Int.tdiv (IntKind.wrap .i64 (v0_2 + (1 : Int))) (2 : Int))) (List.drop 1 v0_3)) none) none)))) (cond (decide ((List.length v0_3 : Int) > (0 : Int))) (k (0 : Int) false) (k v0_0 true)))
def impl_TopFrom {ρ : Type} (k : Int → Bool → Option ρ) (L0 : Int → Int → Int → (List Int) → Option ρ) (a0 : Int) (a1 : Int) (a2 : Int) (a3 : (List Int)) : Option ρ := (cond (decide (a2 < (1 : Int))) (k (0 : Int) false) (cond (decide (a2 > (12 : Int))) (k (0 : Int) false) (cond (!(N.impl_InRange a1 (0 : Int) (IntKind.wrap .i64 (a2 - (1 : Int))))) (k (0 : Int) false) (L0 a0 a1 a2 a3))))
theorem impl_TopFrom_ok {ρ : Type} (k : Int → Bool → Option ρ) (a0 : Int) (a1 : Int) (a2 : Int) (a3 : (List Int)) (l_a3 : lnL (fun _ => True) a3) : ∃ n0, ∀ n, n0 ≤ n → ∀ (L0 : Nat → Int → Int → Int → (List Int) → Option ρ) (h0 : ∀ ( m : Nat) (v0_0 : Int) (v0_1 : Int) (v0_2 : Int) (v0_3 : (List Int)), L0 (m + 1) v0_0 v0_1 v0_2 v0_3 = impl_TopFrom_L0 k (L0 m) v0_0 v0_1 v0_2 v0_3), impl_TopFrom k (L0 n) a0 a1 a2 a3 = k (N.impl_TopFrom a0 a1 a2 a3).1 (N.impl_TopFrom a0 a1 a2 a3).2 := by
  refine ⟨a2.toNat + 1, fun n hn L0 h0 => ?_⟩
  show impl_TopFrom k (L0 n) a0 a1 a2 a3 = k (topFrom a0 a1 a2 a3).1 (topFrom a0 a1 a2 a3).2
  unfold impl_TopFrom topFrom
  dsimp only [N.impl_InRange]
  by_cases c1 : a2 < 1
  · have : inR a2 1 12 = false := by unfold inR; simp; omega
    rw [decide_eq_true c1, this]
    rfl
  by_cases c2 : a2 > 12
  · have : inR a2 1 12 = false := by unfold inR; simp; omega
    rw [decide_eq_false c1, decide_eq_true c2, this]
    rfl
  have hn1 : inR a2 1 12 = true := by unfold inR; simp; omega
  have hn2 : 1 ≤ a2 ∧ a2 ≤ 12 := by omega
  rw [decide_eq_false c1, decide_eq_false c2, hn1, wrap_id (n := a2 - 1) (by omega) (by omega)]
  cases hi1 : inR a1 0 (a2 - 1) with
  | false => rfl
  | true =>
    have hi2 : 0 ≤ a1 ∧ a1 ≤ a2 - 1 := by simpa [inR] using hi1
    show L0 n a0 a1 a2 a3 = k (tfRes (tfN a2.toNat a0 a1.toNat a2.toNat a3)).1 (tfRes (tfN a2.toNat a0 a1.toNat a2.toNat a3)).2
    refine raw_meas (σ := Int × Int × Int × List Int) (L := fun m s => L0 m s.1 s.2.1 s.2.2.1 s.2.2.2) (R := fun s c => impl_TopFrom_L0 k (fun l i n p => c (l, i, n, p)) s.1 s.2.1 s.2.2.1 s.2.2.2)
      (fun m s => h0 m _ _ _ _) (fun s => 0 ≤ s.2.1 ∧ 1 ≤ s.2.2.1 ∧ s.2.2.1 ≤ 12 ∧ s.2.1 < s.2.2.1) (fun s => s.2.2.1.toNat) (fun s => k (tfRes (tfN s.2.2.1.toNat s.1 s.2.1.toNat s.2.2.1.toNat s.2.2.2)).1 (tfRes (tfN s.2.2.1.toNat s.1 s.2.1.toNat s.2.2.1.toNat s.2.2.2)).2) (fun s c hI hc => ?_) n (a0, a1, a2, a3) ⟨hi2.1, hn2.1, hn2.2, by dsimp only; omega⟩ (by dsimp only; omega)
    obtain ⟨l, i, q, p⟩ := s
    obtain ⟨b0, b1, b2, b3⟩ := hI
    dsimp only at b0 b1 b2 b3 hc ⊢
    obtain ⟨i, rfl⟩ := Int.eq_ofNat_of_zero_le b0
    obtain ⟨q, rfl⟩ := Int.eq_ofNat_of_zero_le (a := q) (by omega)
    simp only [Int.toNat_natCast] at hc ⊢
    by_cases h1 : 1 < q
    · obtain ⟨f, rfl⟩ : ∃ f, q = f + 1 := ⟨q - 1, by omega⟩
      have e1 : decide (((f + 1 : Nat) : Int) > 1) = true := by simp; omega
      have t3 : IntKind.wrap .i64 (Int.tdiv (IntKind.wrap .i64 (((f + 1 : Nat) : Int) + 1)) 2) = (((f + 1 + 1) / 2 : Nat) : Int) := by rw [wrap_succ (by unfold big; omega), tdiv2 (by omega)]
      have hx : xorI .i64 (i : Int) 1 = ((sib i : Nat) : Int) := xor_sib (by omega)
      have hfuel : ∀ leaf path, tfN ((f + 1 + 1) / 2) leaf (i / 2) ((f + 1 + 1) / 2) path = tfN f leaf (i / 2) ((f + 1 + 1) / 2) path := fun leaf path => tfN_more _ _ _ _ _ _ (by omega) (by omega)
      have step : ∀ leaf p', c (leaf, ((i / 2 : Nat) : Int), (((f + 1 + 1) / 2 : Nat) : Int), p') = k (tfRes (tfN f leaf (i / 2) ((f + 1 + 1) / 2) p')).1 (tfRes (tfN f leaf (i / 2) ((f + 1 + 1) / 2) p')).2 := by
        intro leaf p'
        have := hc (leaf, ((i / 2 : Nat) : Int), (((f + 1 + 1) / 2 : Nat) : Int), p') ⟨by simp; omega, by simp; omega, by simp; omega, by simp; omega⟩ (by simp; omega)
        simp only [Int.toNat_natCast] at this
        rw [this, hfuel]
      unfold tfN
      rw [decide_eq_true h1]
      by_cases hs : sib i < f + 1
      · have e2 : decide (((sib i : Nat) : Int) ≥ ((f + 1 : Nat) : Int)) = false := by simp; omega
        cases p with
        | nil =>
          have e3 : (((List.length ([] : List Int)) : Int) == 0) = true := rfl
          simp only [impl_TopFrom_L0, e1, hx, e2, e3, decide_eq_true hs, cond_true, cond_false]
          rfl
        | cons x xs =>
          have e3 : (((List.length (x :: xs)) : Int) == 0) = false := by simp; omega
          have e4 : inRange 0 (x :: xs).length = true := by
            unfold inRange
            rw [List.length_cons]
            have h6 : (0 : Int) < ((xs.length + 1 : Nat) : Int) := by omega
            rw [decide_eq_true h6]
            rfl
          have e5 : decide (1 ≤ (((x :: xs).length : Nat) : Int)) = true := by simp; omega
          by_cases hev : i % 2 = 0
          · have o1 : (((i % 2 : Nat) : Int) == 0) = true := by rw [hev]; rfl
            simp only [impl_TopFrom_L0, e1, hx, e2, e3, e4, e5, o1, tmod2, decide_eq_true hs, decide_eq_true hev, cond_true, cond_false, tdiv2 (i := i) (by omega), t3, step]
            rfl
          · have o1 : (((i % 2 : Nat) : Int) == 0) = false := by simp; omega
            simp only [impl_TopFrom_L0, e1, hx, e2, e3, e4, e5, o1, tmod2, decide_eq_true hs, decide_eq_false hev, cond_true, cond_false, tdiv2 (i := i) (by omega), t3, step]
            rfl
      · have e2 : decide (((sib i : Nat) : Int) ≥ ((f + 1 : Nat) : Int)) = true := by simp; omega
        simp only [impl_TopFrom_L0, e1, hx, e2, decide_eq_false hs, cond_true, cond_false, tdiv2 (i := i) (by omega), t3, step]
    · have e1 : decide ((q : Int) > 1) = false := by simp; omega
      have e2 : q = 1 := by omega
      subst e2
      unfold tfN
      cases p with
      | nil => rfl
      | cons x xs =>
        have e3 : decide ((((x :: xs).length : Nat) : Int) > 0) = true := by
          rw [List.length_cons]
          exact decide_eq_true (by omega)
        simp only [impl_TopFrom_L0, e1, e3, cond_true, cond_false]
        rfl
def O_impl_TopFrom : Orac := (orcX 44 [.val (.int .i64), .val (.int .i64)] (fun d => true) (fun d => [⟨(.int .i64), N.impl_NodeOf d.1 d.2.1⟩]) (orcX 43 [.val (.int .i64), .val (.int .i64), .val (.int .i64)] (fun d => true) (fun d => [⟨.bool, N.impl_InRange d.1 d.2.1 d.2.2.1⟩]) nilO))
theorem ok_impl_TopFrom : OracOk Try.prog sigs O_impl_TopFrom := (orcX_ok rfl (fun d g => said_impl_NodeOf d.1 d.2.1) (orcX_ok rfl (fun d g => said_impl_InRange d.1 d.2.1 d.2.2.1) nilO_ok))
def A_impl_TopFrom : Ann := fun b => cond (Nat.beq b 0) ⟨[(0, false), (1, false), (2, false), (3, false)], []⟩ (⟨[], []⟩)
def S_impl_TopFrom_0 (v0_0 : Int) (v0_1 : Int) (v0_2 : Int) (v0_3 : (List Int)) : St := [(kT 0, some (.tv (.v (.int .i64) v0_0 .no))), (kT 1, some (.tv (.v (.int .i64) v0_1 .no))), (kT 2, some (.tv (.v (.int .i64) v0_2 .no))), (kT 3, some (.tv (.v (.slice 3 (.int .i64)) v0_3 .no)))]
noncomputable def L_impl_TopFrom_0 (n m : Nat) : St → Option Ret := loopOf tab sigs O_impl_TopFrom A_impl_TopFrom Try.f19 [((.int .i64), .no), (.bool, .no)] n (fun _ => 0) 0 m
theorem b_impl_TopFrom_0 (n m : Nat) (v0_0 : Int) (v0_1 : Int) (v0_2 : Int) (v0_3 : (List Int)) : L_impl_TopFrom_0 n (m + 1) (S_impl_TopFrom_0 v0_0 v0_1 v0_2 v0_3) = impl_TopFrom_L0 (fun r0 r1 => some [⟨(.int .i64), r0⟩, ⟨.bool, r1⟩]) (fun v0_0 v0_1 v0_2 v0_3 => L_impl_TopFrom_0 n m (S_impl_TopFrom_0 v0_0 v0_1 v0_2 v0_3)) v0_0 v0_1 v0_2 v0_3 := by kernel_rfl
theorem a_impl_TopFrom (n : Nat) (a0 : Int) (a1 : Int) (a2 : Int) (a3 : (List Int)) : absF tab sigs O_impl_TopFrom A_impl_TopFrom Try.f19 [((.int .i64), .no), (.bool, .no)] n [.val (.int .i64) a0, .val (.int .i64) a1, .val (.int .i64) a2, .val (.slice 3 (.int .i64)) a3] = impl_TopFrom (fun r0 r1 => some [⟨(.int .i64), r0⟩, ⟨.bool, r1⟩]) (fun v0_0 v0_1 v0_2 v0_3 => L_impl_TopFrom_0 n n (S_impl_TopFrom_0 v0_0 v0_1 v0_2 v0_3)) a0 a1 a2 a3 := by kernel_rfl
theorem said_impl_TopFrom (a0 : Int) (a1 : Int) (a2 : Int) (a3 : (List Int)) : Said Try.prog sigs_19 19 [.val (.int .i64) a0, .val (.int .i64) a1, .val (.int .i64) a2, .val (.slice 3 (.int .i64)) a3] [⟨(.int .i64), (N.impl_TopFrom a0 a1 a2 a3).1⟩, ⟨.bool, (N.impl_TopFrom a0 a1 a2 a3).2⟩] := said_len (T := tab) (A := A_impl_TopFrom) tabOk ok_impl_TopFrom tabOk.follows Try.func19 (by kernel_rfl) (by kernel_rfl) (fun hl => let ⟨n, hn⟩ := impl_TopFrom_ok (ρ := Ret) (fun r0 r1 => some [⟨(.int .i64), r0⟩, ⟨.bool, r1⟩]) a0 a1 a2 a3 hl.2.2.2.1; ⟨n, (a_impl_TopFrom n a0 a1 a2 a3).trans (hn n (Nat.le_refl n) (fun  m v0_0 v0_1 v0_2 v0_3 => L_impl_TopFrom_0 n  m (S_impl_TopFrom_0 v0_0 v0_1 v0_2 v0_3)) (fun  m v0_0 v0_1 v0_2 v0_3 => b_impl_TopFrom_0 n  m v0_0 v0_1 v0_2 v0_3))⟩)
/-! laws.szKeys -/
abbrev G.laws_szKeys (a : TKeys) (left : Int) : Bool := gL left
abbrev N.laws_szKeys (a : TKeys) (left : Int) : Int := sub1 (wK a) left
def laws_szKeys {ρ : Type} (k : Int → Option ρ) (a0 : TKeys) (a1 : Int) : Option ρ := (cond (G.laws_szIntS a0.1 a1) (cond (decide ((N.laws_szIntS a0.1 a1) < (0 : Int))) (k (-1 : Int)) (k (N.laws_szIntS a0.1 a1))) none)
theorem laws_szKeys_ok {ρ : Type} (k : Int → Option ρ) (a0 : TKeys) (a1 : Int) (l_a0 : (lnL (fun _ => True) a0.1 ∧ True)) (g : G.laws_szKeys a0 a1 = true) : laws_szKeys k  a0 a1 = k (N.laws_szKeys a0 a1) := by
  unfold G.laws_szKeys at g
  show cond (gL a1) _ none = _
  rw [g]
  exact sz_last
def O_laws_szKeys : Orac := (orcX 34 [.val (.slice 3 (.int .i64)), .val (.int .i64)] (fun d => G.laws_szIntS d.1 d.2.1) (fun d => [⟨(.int .i64), N.laws_szIntS d.1 d.2.1⟩]) nilO)
theorem ok_laws_szKeys : OracOk Try.prog sigs O_laws_szKeys := (orcX_ok rfl (fun d g => said_laws_szIntS d.1 d.2.1 g) nilO_ok)
def A_laws_szKeys : Ann := fun b => ⟨[], []⟩
theorem a_laws_szKeys (n : Nat) (a0 : TKeys) (a1 : Int) : absF tab sigs O_laws_szKeys A_laws_szKeys Try.f24 [((.int .i64), .no)] n [.val (.pair (.slice 3 (.int .i64)) (.int .i64)) a0, .val (.int .i64) a1] = laws_szKeys (fun r0 => some [⟨(.int .i64), r0⟩])  a0 a1 := by kernel_rfl
theorem said_laws_szKeys (a0 : TKeys) (a1 : Int) (g : G.laws_szKeys a0 a1 = true) : Said Try.prog sigs_24 24 [.val (.pair (.slice 3 (.int .i64)) (.int .i64)) a0, .val (.int .i64) a1] [⟨(.int .i64), N.laws_szKeys a0 a1⟩] := said_len (T := tab) (A := A_laws_szKeys) tabOk ok_laws_szKeys tabOk.follows Try.func24 (by kernel_rfl) (by kernel_rfl) (fun hl => ⟨0, (a_laws_szKeys 0 a0 a1).trans (laws_szKeys_ok (ρ := Ret) (fun r0 => some [⟨(.int .i64), r0⟩]) a0 a1 hl.1 g)⟩)
/-! laws.toKeys -/
abbrev G.laws_toKeys (a : TKeys) : Bool := decide (wK a ≤ 1048576)
abbrev N.laws_toKeys (a : TKeys) : TKeys := a
def laws_toKeys {ρ : Type} (k : TKeys → Option ρ) (a0 : TKeys) : Option ρ := (cond (G.laws_toIntS a0.1) (k ((N.laws_toIntS a0.1), a0.2)) none)
theorem laws_toKeys_ok {ρ : Type} (k : TKeys → Option ρ) (a0 : TKeys) (l_a0 : (lnL (fun _ => True) a0.1 ∧ True)) (g : G.laws_toKeys a0 = true) : laws_toKeys k  a0 = k (N.laws_toKeys a0) := by
  unfold G.laws_toKeys at g
  show cond (decide (wK a0 ≤ 1048576)) _ none = _
  rw [g]
  rfl
def O_laws_toKeys : Orac := (orcX 15 [.val (.slice 3 (.int .i64))] (fun d => G.laws_toIntS d.1) (fun d => [⟨(.slice 3 (.int .i64)), N.laws_toIntS d.1⟩]) nilO)
theorem ok_laws_toKeys : OracOk Try.prog sigs O_laws_toKeys := (orcX_ok rfl (fun d g => said_laws_toIntS d.1 g) nilO_ok)
def A_laws_toKeys : Ann := fun b => ⟨[], []⟩
theorem a_laws_toKeys (n : Nat) (a0 : TKeys) : absF tab sigs O_laws_toKeys A_laws_toKeys Try.f26 [((.pair (.slice 3 (.int .i64)) (.int .i64)), (.pair (.own 0) .no))] n [.val (.pair (.slice 3 (.int .i64)) (.int .i64)) a0] = laws_toKeys (fun r0 => some [⟨(.pair (.slice 3 (.int .i64)) (.int .i64)), r0⟩])  a0 := by kernel_rfl
theorem said_laws_toKeys (a0 : TKeys) (g : G.laws_toKeys a0 = true) : Said Try.prog sigs_26 26 [.val (.pair (.slice 3 (.int .i64)) (.int .i64)) a0] [⟨(.pair (.slice 3 (.int .i64)) (.int .i64)), N.laws_toKeys a0⟩] := said_len (T := tab) (A := A_laws_toKeys) tabOk ok_laws_toKeys tabOk.follows Try.func26 (by kernel_rfl) (by kernel_rfl) (fun hl => ⟨0, (a_laws_toKeys 0 a0).trans (laws_toKeys_ok (ρ := Ret) (fun r0 => some [⟨(.pair (.slice 3 (.int .i64)) (.int .i64)), r0⟩]) a0 hl.1 g)⟩)
/-! spec.KeysInts -/
abbrev G.spec_KeysInts (k : TKeys) : Bool := decide (wK k ≤ 1048576)
abbrev N.spec_KeysInts (k : TKeys) : List Int := keysInts k
def spec_KeysInts {ρ : Type} (k : (List Int) → Option ρ) (a0 : TKeys) : Option ρ := (cond (fit (List.length [a0.2, (List.length a0.1 : Int)]) (List.length a0.1)) (k (List.append [a0.2, (List.length a0.1 : Int)] a0.1)) none)
theorem spec_KeysInts_ok {ρ : Type} (k : (List Int) → Option ρ) (a0 : TKeys) (l_a0 : (lnL (fun _ => True) a0.1 ∧ True)) (g : G.spec_KeysInts a0 = true) : spec_KeysInts k  a0 = k (N.spec_KeysInts a0) := by
  unfold G.spec_KeysInts at g
  have h : wK a0 ≤ 1048576 := of_decide_eq_true g
  have h1 : fit (List.length [a0.2, (List.length a0.1 : Int)]) (List.length a0.1) = true := fit_of (by
    unfold wK at h
    simp
    omega)
  show cond _ _ none = _
  rw [h1]
  rfl
def O_spec_KeysInts : Orac := nilO
theorem ok_spec_KeysInts : OracOk Try.prog sigs O_spec_KeysInts := nilO_ok
def A_spec_KeysInts : Ann := fun b => ⟨[], []⟩
theorem a_spec_KeysInts (n : Nat) (a0 : TKeys) : absF tab sigs O_spec_KeysInts A_spec_KeysInts Try.f45 [((.slice 3 (.int .i64)), (.own 0))] n [.val (.pair (.slice 3 (.int .i64)) (.int .i64)) a0] = spec_KeysInts (fun r0 => some [⟨(.slice 3 (.int .i64)), r0⟩])  a0 := by kernel_rfl
theorem said_spec_KeysInts (a0 : TKeys) (g : G.spec_KeysInts a0 = true) : Said Try.prog sigs_45 45 [.val (.pair (.slice 3 (.int .i64)) (.int .i64)) a0] [⟨(.slice 3 (.int .i64)), N.spec_KeysInts a0⟩] := said_len (T := tab) (A := A_spec_KeysInts) tabOk ok_spec_KeysInts tabOk.follows Try.func45 (by kernel_rfl) (by kernel_rfl) (fun hl => ⟨0, (a_spec_KeysInts 0 a0).trans (spec_KeysInts_ok (ρ := Ret) (fun r0 => some [⟨(.slice 3 (.int .i64)), r0⟩]) a0 hl.1 g)⟩)
/-! spec.ZoneOf -/
abbrev G.spec_ZoneOf (k : TKeys) (salt : Int) : Bool := decide (wK k ≤ 1048576)
abbrev N.spec_ZoneOf (k : TKeys) (salt : Int) : Int := zoneOf k salt
def spec_ZoneOf {ρ : Type} (k : Int → Option ρ) (a0 : TKeys) (a1 : Int) : Option ρ := (cond (G.spec_KeysInts a0) (cond (fit (List.length [(239 : Int), a1]) (List.length (N.spec_KeysInts a0))) (k (N.spec_Hash (List.append [(239 : Int), a1] (N.spec_KeysInts a0)))) none) none)
theorem spec_ZoneOf_ok {ρ : Type} (k : Int → Option ρ) (a0 : TKeys) (a1 : Int) (l_a0 : (lnL (fun _ => True) a0.1 ∧ True)) (g : G.spec_ZoneOf a0 a1 = true) : spec_ZoneOf k  a0 a1 = k (N.spec_ZoneOf a0 a1) := by
  unfold G.spec_ZoneOf at g
  have h : wK a0 ≤ 1048576 := of_decide_eq_true g
  have h1 : fit (List.length [(239 : Int), a1]) (List.length (keysInts a0)) = true := fit_of (by
    rw [keysInts_len]
    simp
    omega)
  show cond (decide (wK a0 ≤ 1048576)) (cond _ _ none) none = _
  rw [g, h1]
  rfl
def O_spec_ZoneOf : Orac := (orcX 37 [.val (.slice 3 (.int .i64))] (fun d => true) (fun d => [⟨(.int .i64), N.spec_Hash d.1⟩]) (orcX 45 [.val (.pair (.slice 3 (.int .i64)) (.int .i64))] (fun d => G.spec_KeysInts d.1) (fun d => [⟨(.slice 3 (.int .i64)), N.spec_KeysInts d.1⟩]) nilO))
theorem ok_spec_ZoneOf : OracOk Try.prog sigs O_spec_ZoneOf := (orcX_ok rfl (fun d g => said_spec_Hash d.1) (orcX_ok rfl (fun d g => said_spec_KeysInts d.1 g) nilO_ok))
def A_spec_ZoneOf : Ann := fun b => ⟨[], []⟩
theorem a_spec_ZoneOf (n : Nat) (a0 : TKeys) (a1 : Int) : absF tab sigs O_spec_ZoneOf A_spec_ZoneOf Try.f25 [((.int .i64), .no)] n [.val (.pair (.slice 3 (.int .i64)) (.int .i64)) a0, .val (.int .i64) a1] = spec_ZoneOf (fun r0 => some [⟨(.int .i64), r0⟩])  a0 a1 := by kernel_rfl
theorem said_spec_ZoneOf (a0 : TKeys) (a1 : Int) (g : G.spec_ZoneOf a0 a1 = true) : Said Try.prog sigs_25 25 [.val (.pair (.slice 3 (.int .i64)) (.int .i64)) a0, .val (.int .i64) a1] [⟨(.int .i64), N.spec_ZoneOf a0 a1⟩] := said_len (T := tab) (A := A_spec_ZoneOf) tabOk ok_spec_ZoneOf tabOk.follows Try.func25 (by kernel_rfl) (by kernel_rfl) (fun hl => ⟨0, (a_spec_ZoneOf 0 a0 a1).trans (spec_ZoneOf_ok (ρ := Ret) (fun r0 => some [⟨(.int .i64), r0⟩]) a0 a1 hl.1 g)⟩)
/-! impl.KeysInts -/
abbrev G.impl_KeysInts (k : TKeys) : Bool := decide (wK k ≤ 1048576)
abbrev N.impl_KeysInts (k : TKeys) : List Int := keysInts k
def impl_KeysInts {ρ : Type} (k : (List Int) → Option ρ) (a0 : TKeys) : Option ρ := (cond (fit (List.length [a0.2, (List.length a0.1 : Int)]) (List.length a0.1)) (k (List.append [a0.2, (List.length a0.1 : Int)] a0.1)) none)
theorem impl_KeysInts_ok {ρ : Type} (k : (List Int) → Option ρ) (a0 : TKeys) (l_a0 : (lnL (fun _ => True) a0.1 ∧ True)) (g : G.impl_KeysInts a0 = true) : impl_KeysInts k  a0 = k (N.impl_KeysInts a0) := by
  unfold G.impl_KeysInts at g
  have h : wK a0 ≤ 1048576 := of_decide_eq_true g
  have h1 : fit (List.length [a0.2, (List.length a0.1 : Int)]) (List.length a0.1) = true := fit_of (by
    unfold wK at h
    simp
    omega)
  show cond _ _ none = _
  rw [h1]
  rfl
def O_impl_KeysInts : Orac := nilO
theorem ok_impl_KeysInts : OracOk Try.prog sigs O_impl_KeysInts := nilO_ok
def A_impl_KeysInts : Ann := fun b => ⟨[], []⟩
theorem a_impl_KeysInts (n : Nat) (a0 : TKeys) : absF tab sigs O_impl_KeysInts A_impl_KeysInts Try.f47 [((.slice 3 (.int .i64)), (.own 0))] n [.val (.pair (.slice 3 (.int .i64)) (.int .i64)) a0] = impl_KeysInts (fun r0 => some [⟨(.slice 3 (.int .i64)), r0⟩])  a0 := by kernel_rfl
theorem said_impl_KeysInts (a0 : TKeys) (g : G.impl_KeysInts a0 = true) : Said Try.prog sigs_47 47 [.val (.pair (.slice 3 (.int .i64)) (.int .i64)) a0] [⟨(.slice 3 (.int .i64)), N.impl_KeysInts a0⟩] := said_len (T := tab) (A := A_impl_KeysInts) tabOk ok_impl_KeysInts tabOk.follows Try.func47 (by kernel_rfl) (by kernel_rfl) (fun hl => ⟨0, (a_impl_KeysInts 0 a0).trans (impl_KeysInts_ok (ρ := Ret) (fun r0 => some [⟨(.slice 3 (.int .i64)), r0⟩]) a0 hl.1 g)⟩)
/-! impl.ZoneOf -/
abbrev G.impl_ZoneOf (k : TKeys) (salt : Int) : Bool := decide (wK k ≤ 1048576)
abbrev N.impl_ZoneOf (k : TKeys) (salt : Int) : Int := zoneOf k salt
def impl_ZoneOf {ρ : Type} (k : Int → Option ρ) (a0 : TKeys) (a1 : Int) : Option ρ := (cond (G.impl_KeysInts a0) (cond (fit (List.length [(239 : Int), a1]) (List.length (N.impl_KeysInts a0))) (k (N.impl_Hash (List.append [(239 : Int), a1] (N.impl_KeysInts a0)))) none) none)
theorem impl_ZoneOf_ok {ρ : Type} (k : Int → Option ρ) (a0 : TKeys) (a1 : Int) (l_a0 : (lnL (fun _ => True) a0.1 ∧ True)) (g : G.impl_ZoneOf a0 a1 = true) : impl_ZoneOf k  a0 a1 = k (N.impl_ZoneOf a0 a1) := by
  unfold G.impl_ZoneOf at g
  have h : wK a0 ≤ 1048576 := of_decide_eq_true g
  have h1 : fit (List.length [(239 : Int), a1]) (List.length (keysInts a0)) = true := fit_of (by
    rw [keysInts_len]
    simp
    omega)
  show cond (decide (wK a0 ≤ 1048576)) (cond _ _ none) none = _
  rw [g, h1]
  rfl
def O_impl_ZoneOf : Orac := (orcX 46 [.val (.slice 3 (.int .i64))] (fun d => true) (fun d => [⟨(.int .i64), N.impl_Hash d.1⟩]) (orcX 47 [.val (.pair (.slice 3 (.int .i64)) (.int .i64))] (fun d => G.impl_KeysInts d.1) (fun d => [⟨(.slice 3 (.int .i64)), N.impl_KeysInts d.1⟩]) nilO))
theorem ok_impl_ZoneOf : OracOk Try.prog sigs O_impl_ZoneOf := (orcX_ok rfl (fun d g => said_impl_Hash d.1) (orcX_ok rfl (fun d g => said_impl_KeysInts d.1 g) nilO_ok))
def A_impl_ZoneOf : Ann := fun b => ⟨[], []⟩
theorem a_impl_ZoneOf (n : Nat) (a0 : TKeys) (a1 : Int) : absF tab sigs O_impl_ZoneOf A_impl_ZoneOf Try.f27 [((.int .i64), .no)] n [.val (.pair (.slice 3 (.int .i64)) (.int .i64)) a0, .val (.int .i64) a1] = impl_ZoneOf (fun r0 => some [⟨(.int .i64), r0⟩])  a0 a1 := by kernel_rfl
theorem said_impl_ZoneOf (a0 : TKeys) (a1 : Int) (g : G.impl_ZoneOf a0 a1 = true) : Said Try.prog sigs_27 27 [.val (.pair (.slice 3 (.int .i64)) (.int .i64)) a0, .val (.int .i64) a1] [⟨(.int .i64), N.impl_ZoneOf a0 a1⟩] := said_len (T := tab) (A := A_impl_ZoneOf) tabOk ok_impl_ZoneOf tabOk.follows Try.func27 (by kernel_rfl) (by kernel_rfl) (fun hl => ⟨0, (a_impl_ZoneOf 0 a0 a1).trans (impl_ZoneOf_ok (ρ := Ret) (fun r0 => some [⟨(.int .i64), r0⟩]) a0 a1 hl.1 g)⟩)
end Go.Proofs.Yteaahdhmhbmdgaa.Ref
