/- Functions of the program: what each computes, and that it does so.
   Conditions: as each theorem states. -/
import Derived.Test.YtnhkdfcggcoemaaSA
set_option linter.unusedVariables false
set_option linter.unusedSimpArgs false
set_option maxRecDepth 100000
namespace Go.Proofs.Ytnhkdfcggcoemaa.Ref
open Go.RowKit Go.Proofs.YtnhkdfcggcoemaaW.PrintWords Go.Proofs.YtnhkdfcggcoemaaW.PrintLast
/-! laws.szIntS -/
abbrev G.laws_szIntS (a : List Int) (left : Int) : Bool := gL left
abbrev N.laws_szIntS (a : List Int) (left : Int) : Int := sub1 a.length left
def laws_szIntS {ρ : Type} (k : Int → Option ρ) (a0 : (List Int)) (a1 : Int) : Option ρ := (cond (decide ((IntKind.wrap .i64 (a1 - (List.length a0 : Int))) < (0 : Int))) (k (-1 : Int)) (k (IntKind.wrap .i64 (a1 - (List.length a0 : Int)))))
theorem laws_szIntS_ok {ρ : Type} (k : Int → Option ρ) (a0 : (List Int)) (a1 : Int) (l_a0 : lnL (fun _ => True) a0) (g : G.laws_szIntS a0 a1 = true) : laws_szIntS k  a0 a1 = k (N.laws_szIntS a0 a1) := by
  unfold G.laws_szIntS at g
  exact sz_first (v := 0) (c := k) g l_a0.1 (fun g' => by
    have : 0 ≤ sub1 a0.length a1 := of_decide_eq_true ((Bool.and_eq_true _ _).mp g').1
    rw [sub1_pos (w := 0) (by omega)]
    simp)
def O_laws_szIntS : Orac := nilO
theorem ok_laws_szIntS : OracOk Try.prog sigs O_laws_szIntS := nilO_ok
def A_laws_szIntS : Ann := fun b => ⟨[], []⟩
theorem a_laws_szIntS (n : Nat) (a0 : (List Int)) (a1 : Int) : absF tab sigs O_laws_szIntS A_laws_szIntS Try.f34 [((.int .i64), .no)] n [.val (.slice 3 (.int .i64)) a0, .val (.int .i64) a1] = laws_szIntS (fun r0 => some [⟨(.int .i64), r0⟩])  a0 a1 := by kernel_rfl
theorem said_laws_szIntS (a0 : (List Int)) (a1 : Int) (g : G.laws_szIntS a0 a1 = true) : Said Try.prog sigs_34 34 [.val (.slice 3 (.int .i64)) a0, .val (.int .i64) a1] [⟨(.int .i64), N.laws_szIntS a0 a1⟩] := said_len (T := tab) (A := A_laws_szIntS) tabOk ok_laws_szIntS tabOk.follows Try.func34 (by kernel_rfl) (by kernel_rfl) (fun hl => ⟨0, (a_laws_szIntS 0 a0 a1).trans (laws_szIntS_ok (ρ := Ret) (fun r0 => some [⟨(.int .i64), r0⟩]) a0 a1 hl.1 g)⟩)
/-! laws.szKeys -/
abbrev G.laws_szKeys (a : TKeys) (left : Int) : Bool := gL left
abbrev N.laws_szKeys (a : TKeys) (left : Int) : Int := sub1 (wK a) left
def laws_szKeys {ρ : Type} (k : Int → Option ρ) (a0 : TKeys) (a1 : Int) : Option ρ := (cond (G.laws_szIntS a0.1 a1) (cond (decide ((N.laws_szIntS a0.1 a1) < (0 : Int))) (k (-1 : Int)) (k (N.laws_szIntS a0.1 a1))) none)
theorem laws_szKeys_ok {ρ : Type} (k : Int → Option ρ) (a0 : TKeys) (a1 : Int) (l_a0 : (lnL (fun _ => True) a0.1 ∧ True)) (g : G.laws_szKeys a0 a1 = true) : laws_szKeys k  a0 a1 = k (N.laws_szKeys a0 a1) := by
  unfold G.laws_szKeys at g
  show cond (gL a1) _ none = _
  rw [g]
  exact sz_last
def O_laws_szKeys : Orac := (orcX 34 [.val (.slice 3 (.int .i64)), .val (.int .i64)] (fun d => G.laws_szIntS d.1 d.2.1) (fun d => [⟨(.int .i64), N.laws_szIntS d.1 d.2.1⟩]) nilO)
theorem ok_laws_szKeys : OracOk Try.prog sigs O_laws_szKeys := (orcX_ok rfl (fun d g => said_laws_szIntS d.1 d.2.1 g) nilO_ok)
def A_laws_szKeys : Ann := fun b => ⟨[], []⟩
theorem a_laws_szKeys (n : Nat) (a0 : TKeys) (a1 : Int) : absF tab sigs O_laws_szKeys A_laws_szKeys Try.f13 [((.int .i64), .no)] n [.val (.pair (.slice 3 (.int .i64)) (.int .i64)) a0, .val (.int .i64) a1] = laws_szKeys (fun r0 => some [⟨(.int .i64), r0⟩])  a0 a1 := by kernel_rfl
theorem said_laws_szKeys (a0 : TKeys) (a1 : Int) (g : G.laws_szKeys a0 a1 = true) : Said Try.prog sigs_13 13 [.val (.pair (.slice 3 (.int .i64)) (.int .i64)) a0, .val (.int .i64) a1] [⟨(.int .i64), N.laws_szKeys a0 a1⟩] := said_len (T := tab) (A := A_laws_szKeys) tabOk ok_laws_szKeys tabOk.follows Try.func13 (by kernel_rfl) (by kernel_rfl) (fun hl => ⟨0, (a_laws_szKeys 0 a0 a1).trans (laws_szKeys_ok (ρ := Ret) (fun r0 => some [⟨(.int .i64), r0⟩]) a0 a1 hl.1 g)⟩)
/-! laws.toIntS -/
abbrev G.laws_toIntS (a : List Int) : Bool := decide (a.length ≤ 1048576)
abbrev N.laws_toIntS (a : List Int) : List Int := a
def laws_toIntS_L0 {ρ : Type} (k : (List Int) → Option ρ) (L0 : (List Int) → Int → (List Int) → Option ρ) (v0_0 : (List Int)) (v0_1 : Int) (v0_2 : (List Int)) : Option ρ := (cond (decide (v0_1 < (List.length v0_0 : Int))) (cond (inRange v0_1 (List.length v0_0)) (cond (inRange v0_1 (List.length v0_2)) (cond (inRange v0_1 (List.length v0_2)) (L0 v0_0 (IntKind.wrap .i64 (v0_1 + (1 : Int))) (List.set v0_2 (Int.toNat v0_1) (List.getD v0_0 (Int.toNat v0_1) (0 : Int)))) none) none) none) (k v0_2))
def laws_toIntS {ρ : Type} (k : (List Int) → Option ρ) (L0 : (List Int) → Int → (List Int) → Option ρ) (a0 : (List Int)) : Option ρ := (cond (decide (0 ≤ (List.length a0 : Int)) && decide ((List.length a0 : Int) ≤ 1099511627776)) (L0 a0 (0 : Int) (List.replicate (Int.toNat (List.length a0 : Int)) (0 : Int))) none)
theorem laws_toIntS_ok {ρ : Type} (k : (List Int) → Option ρ) (a0 : (List Int)) (l_a0 : lnL (fun _ => True) a0) (g : G.laws_toIntS a0 = true) : ∃ n0, ∀ n, n0 ≤ n → ∀ (L0 : Nat → (List Int) → Int → (List Int) → Option ρ) (h0 : ∀ ( m : Nat) (v0_0 : (List Int)) (v0_1 : Int) (v0_2 : (List Int)), L0 (m + 1) v0_0 v0_1 v0_2 = laws_toIntS_L0 k (L0 m) v0_0 v0_1 v0_2), laws_toIntS k (L0 n) a0 = k (N.laws_toIntS a0) := by
  unfold G.laws_toIntS at g
  refine ⟨a0.length + 1, fun n hn L0 h0 => ?_⟩
  have g' : a0.length ≤ 1048576 := by simpa using g
  have hg : (decide (0 ≤ (a0.length : Int)) && decide ((a0.length : Int) ≤ 1099511627776)) = true := by simp; omega
  show cond _ _ none = _
  rw [hg]
  refine (raw_copy (a := a0) 0 0 (fun x => x) (k := k) (L := fun m i out => L0 m a0 i out) (R := fun i out c => laws_toIntS_L0 k (fun _ i out => c i out) a0 i out) (fun m i s => h0 m a0 i s) (fun j out c hj hl => ?_) (fun s c => ?_) hn).trans (by simp)
  · simp [laws_toIntS_L0, lt_nat, inRange_nat, hj, hl, wrap_succ (j := j) (by unfold big; omega)]
  · simp [laws_toIntS_L0]
def O_laws_toIntS : Orac := nilO
theorem ok_laws_toIntS : OracOk Try.prog sigs O_laws_toIntS := nilO_ok
def A_laws_toIntS : Ann := fun b => cond (Nat.beq b 0) ⟨[(0, false), (3, true), (4, false)], []⟩ (⟨[], []⟩)
def S_laws_toIntS_0 (v0_0 : (List Int)) (v0_1 : Int) (v0_2 : (List Int)) : St := [(kT 0, some (.tv (.v (.slice 3 (.int .i64)) v0_0 .no))), (kT 3, some (.tv (.v (.slice 3 (.int .i64)) [] (.own 24)))), (kT 4, some (.tv (.v (.int .i64) v0_1 .no))), (kR 24, some (.row 3 (.int .i64) v0_2))]
noncomputable def L_laws_toIntS_0 (n m : Nat) : St → Option Ret := loopOf tab sigs O_laws_toIntS A_laws_toIntS Try.f35 [((.slice 3 (.int .i64)), (.own 0))] n (fun _ => 0) 0 m
theorem b_laws_toIntS_0 (n m : Nat) (v0_0 : (List Int)) (v0_1 : Int) (v0_2 : (List Int)) : L_laws_toIntS_0 n (m + 1) (S_laws_toIntS_0 v0_0 v0_1 v0_2) = laws_toIntS_L0 (fun r0 => some [⟨(.slice 3 (.int .i64)), r0⟩]) (fun v0_0 v0_1 v0_2 => L_laws_toIntS_0 n m (S_laws_toIntS_0 v0_0 v0_1 v0_2)) v0_0 v0_1 v0_2 := by kernel_rfl
theorem a_laws_toIntS (n : Nat) (a0 : (List Int)) : absF tab sigs O_laws_toIntS A_laws_toIntS Try.f35 [((.slice 3 (.int .i64)), (.own 0))] n [.val (.slice 3 (.int .i64)) a0] = laws_toIntS (fun r0 => some [⟨(.slice 3 (.int .i64)), r0⟩]) (fun v0_0 v0_1 v0_2 => L_laws_toIntS_0 n n (S_laws_toIntS_0 v0_0 v0_1 v0_2)) a0 := by kernel_rfl
theorem said_laws_toIntS (a0 : (List Int)) (g : G.laws_toIntS a0 = true) : Said Try.prog sigs_35 35 [.val (.slice 3 (.int .i64)) a0] [⟨(.slice 3 (.int .i64)), N.laws_toIntS a0⟩] := said_len (T := tab) (A := A_laws_toIntS) tabOk ok_laws_toIntS tabOk.follows Try.func35 (by kernel_rfl) (by kernel_rfl) (fun hl => let ⟨n, hn⟩ := laws_toIntS_ok (ρ := Ret) (fun r0 => some [⟨(.slice 3 (.int .i64)), r0⟩]) a0 hl.1 g; ⟨n, (a_laws_toIntS n a0).trans (hn n (Nat.le_refl n) (fun  m v0_0 v0_1 v0_2 => L_laws_toIntS_0 n  m (S_laws_toIntS_0 v0_0 v0_1 v0_2)) (fun  m v0_0 v0_1 v0_2 => b_laws_toIntS_0 n  m v0_0 v0_1 v0_2))⟩)
/-! laws.toKeys -/
abbrev G.laws_toKeys (a : TKeys) : Bool := decide (wK a ≤ 1048576)
abbrev N.laws_toKeys (a : TKeys) : TKeys := a
def laws_toKeys {ρ : Type} (k : TKeys → Option ρ) (a0 : TKeys) : Option ρ := (cond (G.laws_toIntS a0.1) (k ((N.laws_toIntS a0.1), a0.2)) none)
theorem laws_toKeys_ok {ρ : Type} (k : TKeys → Option ρ) (a0 : TKeys) (l_a0 : (lnL (fun _ => True) a0.1 ∧ True)) (g : G.laws_toKeys a0 = true) : laws_toKeys k  a0 = k (N.laws_toKeys a0) := by
  unfold G.laws_toKeys at g
  show cond (decide (wK a0 ≤ 1048576)) _ none = _
  rw [g]
  rfl
def O_laws_toKeys : Orac := (orcX 35 [.val (.slice 3 (.int .i64))] (fun d => G.laws_toIntS d.1) (fun d => [⟨(.slice 3 (.int .i64)), N.laws_toIntS d.1⟩]) nilO)
theorem ok_laws_toKeys : OracOk Try.prog sigs O_laws_toKeys := (orcX_ok rfl (fun d g => said_laws_toIntS d.1 g) nilO_ok)
def A_laws_toKeys : Ann := fun b => ⟨[], []⟩
theorem a_laws_toKeys (n : Nat) (a0 : TKeys) : absF tab sigs O_laws_toKeys A_laws_toKeys Try.f15 [((.pair (.slice 3 (.int .i64)) (.int .i64)), (.pair (.own 0) .no))] n [.val (.pair (.slice 3 (.int .i64)) (.int .i64)) a0] = laws_toKeys (fun r0 => some [⟨(.pair (.slice 3 (.int .i64)) (.int .i64)), r0⟩])  a0 := by kernel_rfl
theorem said_laws_toKeys (a0 : TKeys) (g : G.laws_toKeys a0 = true) : Said Try.prog sigs_15 15 [.val (.pair (.slice 3 (.int .i64)) (.int .i64)) a0] [⟨(.pair (.slice 3 (.int .i64)) (.int .i64)), N.laws_toKeys a0⟩] := said_len (T := tab) (A := A_laws_toKeys) tabOk ok_laws_toKeys tabOk.follows Try.func15 (by kernel_rfl) (by kernel_rfl) (fun hl => ⟨0, (a_laws_toKeys 0 a0).trans (laws_toKeys_ok (ρ := Ret) (fun r0 => some [⟨(.pair (.slice 3 (.int .i64)) (.int .i64)), r0⟩]) a0 hl.1 g)⟩)
/-! spec.NoKeys -/
abbrev N.spec_NoKeys (k : TKeys) : Bool := noKeys k
def spec_NoKeys {ρ : Type} (k : Bool → Option ρ) (a0 : TKeys) : Option ρ := (cond (a0.2 == (0 : Int)) (k ((List.length a0.1 : Int) == (0 : Int))) (k false))
theorem spec_NoKeys_ok {ρ : Type} (k : Bool → Option ρ) (a0 : TKeys) (l_a0 : (lnL (fun _ => True) a0.1 ∧ True)) : spec_NoKeys k  a0 = k (N.spec_NoKeys a0) := by
  simp only [spec_NoKeys, N.spec_NoKeys, noKeys]
  cases a0.2 == 0 <;> rfl
def O_spec_NoKeys : Orac := nilO
theorem ok_spec_NoKeys : OracOk Try.prog sigs O_spec_NoKeys := nilO_ok
def A_spec_NoKeys : Ann := fun b => ⟨[], []⟩
theorem a_spec_NoKeys (n : Nat) (a0 : TKeys) : absF tab sigs O_spec_NoKeys A_spec_NoKeys Try.f14 [(.bool, .no)] n [.val (.pair (.slice 3 (.int .i64)) (.int .i64)) a0] = spec_NoKeys (fun r0 => some [⟨.bool, r0⟩])  a0 := by kernel_rfl
theorem said_spec_NoKeys (a0 : TKeys) : Said Try.prog sigs_14 14 [.val (.pair (.slice 3 (.int .i64)) (.int .i64)) a0] [⟨.bool, N.spec_NoKeys a0⟩] := said_len (T := tab) (A := A_spec_NoKeys) tabOk ok_spec_NoKeys tabOk.follows Try.func14 (by kernel_rfl) (by kernel_rfl) (fun hl => ⟨0, (a_spec_NoKeys 0 a0).trans (spec_NoKeys_ok (ρ := Ret) (fun r0 => some [⟨.bool, r0⟩]) a0 hl.1)⟩)
/-! impl.NoKeys -/
abbrev N.impl_NoKeys (k : TKeys) : Bool := noKeys k
def impl_NoKeys {ρ : Type} (k : Bool → Option ρ) (a0 : TKeys) : Option ρ := (cond (a0.2 == (0 : Int)) (k ((List.length a0.1 : Int) == (0 : Int))) (k false))
theorem impl_NoKeys_ok {ρ : Type} (k : Bool → Option ρ) (a0 : TKeys) (l_a0 : (lnL (fun _ => True) a0.1 ∧ True)) : impl_NoKeys k  a0 = k (N.impl_NoKeys a0) := by
  simp only [impl_NoKeys, N.impl_NoKeys, noKeys]
  cases a0.2 == 0 <;> rfl
def O_impl_NoKeys : Orac := nilO
theorem ok_impl_NoKeys : OracOk Try.prog sigs O_impl_NoKeys := nilO_ok
def A_impl_NoKeys : Ann := fun b => ⟨[], []⟩
theorem a_impl_NoKeys (n : Nat) (a0 : TKeys) : absF tab sigs O_impl_NoKeys A_impl_NoKeys Try.f16 [(.bool, .no)] n [.val (.pair (.slice 3 (.int .i64)) (.int .i64)) a0] = impl_NoKeys (fun r0 => some [⟨.bool, r0⟩])  a0 := by kernel_rfl
theorem said_impl_NoKeys (a0 : TKeys) : Said Try.prog sigs_16 16 [.val (.pair (.slice 3 (.int .i64)) (.int .i64)) a0] [⟨.bool, N.impl_NoKeys a0⟩] := said_len (T := tab) (A := A_impl_NoKeys) tabOk ok_impl_NoKeys tabOk.follows Try.func16 (by kernel_rfl) (by kernel_rfl) (fun hl => ⟨0, (a_impl_NoKeys 0 a0).trans (impl_NoKeys_ok (ρ := Ret) (fun r0 => some [⟨.bool, r0⟩]) a0 hl.1)⟩)
/-! laws.eqIntS -/
abbrev N.laws_eqIntS (a b : List Int) : Bool := eqInts a b
def laws_eqIntS_L0 {ρ : Type} (k : Bool → Option ρ) (L0 : (List Int) → (List Int) → Int → Option ρ) (v0_0 : (List Int)) (v0_1 : (List Int)) (v0_2 : Int) : Option ρ := (cond (decide (v0_2 < (List.length v0_0 : Int))) (cond (inRange v0_2 (List.length v0_0)) (cond (inRange v0_2 (List.length v0_1)) (cond ((List.getD v0_0 (Int.toNat v0_2) (0 : Int)) != (List.getD v0_1 (Int.toNat v0_2) (0 : Int))) (k false) (L0 v0_0 v0_1 (IntKind.wrap .i64 (v0_2 + (1 : Int))))) none) none) (k true))
def laws_eqIntS {ρ : Type} (k : Bool → Option ρ) (L0 : (List Int) → (List Int) → Int → Option ρ) (a0 : (List Int)) (a1 : (List Int)) : Option ρ := (cond ((List.length a0 : Int) != (List.length a1 : Int)) (k false) (L0 a0 a1 (0 : Int)))
theorem laws_eqIntS_ok {ρ : Type} (k : Bool → Option ρ) (a0 : (List Int)) (a1 : (List Int)) (l_a0 : lnL (fun _ => True) a0) (l_a1 : lnL (fun _ => True) a1) : ∃ n0, ∀ n, n0 ≤ n → ∀ (L0 : Nat → (List Int) → (List Int) → Int → Option ρ) (h0 : ∀ ( m : Nat) (v0_0 : (List Int)) (v0_1 : (List Int)) (v0_2 : Int), L0 (m + 1) v0_0 v0_1 v0_2 = laws_eqIntS_L0 k (L0 m) v0_0 v0_1 v0_2), laws_eqIntS k (L0 n) a0 a1 = k (N.laws_eqIntS a0 a1) := by
  exact ⟨a0.length + 1, fun n hn L0 h0 => eq_all (p := fun x y => x == y) (d := 0) l_a0.1 (L := fun m i => L0 m a0 a1 i) (fun m i => h0 m a0 a1 i) hn⟩
def O_laws_eqIntS : Orac := nilO
theorem ok_laws_eqIntS : OracOk Try.prog sigs O_laws_eqIntS := nilO_ok
def A_laws_eqIntS : Ann := fun b => cond (Nat.beq b 0) ⟨[(0, false), (1, false), (5, false)], []⟩ (⟨[], []⟩)
def S_laws_eqIntS_0 (v0_0 : (List Int)) (v0_1 : (List Int)) (v0_2 : Int) : St := [(kT 0, some (.tv (.v (.slice 3 (.int .i64)) v0_0 .no))), (kT 1, some (.tv (.v (.slice 3 (.int .i64)) v0_1 .no))), (kT 5, some (.tv (.v (.int .i64) v0_2 .no)))]
noncomputable def L_laws_eqIntS_0 (n m : Nat) : St → Option Ret := loopOf tab sigs O_laws_eqIntS A_laws_eqIntS Try.f36 [(.bool, .no)] n (fun _ => 0) 0 m
theorem b_laws_eqIntS_0 (n m : Nat) (v0_0 : (List Int)) (v0_1 : (List Int)) (v0_2 : Int) : L_laws_eqIntS_0 n (m + 1) (S_laws_eqIntS_0 v0_0 v0_1 v0_2) = laws_eqIntS_L0 (fun r0 => some [⟨.bool, r0⟩]) (fun v0_0 v0_1 v0_2 => L_laws_eqIntS_0 n m (S_laws_eqIntS_0 v0_0 v0_1 v0_2)) v0_0 v0_1 v0_2 := by kernel_rfl
theorem a_laws_eqIntS (n : Nat) (a0 : (List Int)) (a1 : (List Int)) : absF tab sigs O_laws_eqIntS A_laws_eqIntS Try.f36 [(.bool, .no)] n [.val (.slice 3 (.int .i64)) a0, .val (.slice 3 (.int .i64)) a1] = laws_eqIntS (fun r0 => some [⟨.bool, r0⟩]) (fun v0_0 v0_1 v0_2 => L_laws_eqIntS_0 n n (S_laws_eqIntS_0 v0_0 v0_1 v0_2)) a0 a1 := by kernel_rfl
theorem said_laws_eqIntS (a0 : (List Int)) (a1 : (List Int)) : Said Try.prog sigs_36 36 [.val (.slice 3 (.int .i64)) a0, .val (.slice 3 (.int .i64)) a1] [⟨.bool, N.laws_eqIntS a0 a1⟩] := said_len (T := tab) (A := A_laws_eqIntS) tabOk ok_laws_eqIntS tabOk.follows Try.func36 (by kernel_rfl) (by kernel_rfl) (fun hl => let ⟨n, hn⟩ := laws_eqIntS_ok (ρ := Ret) (fun r0 => some [⟨.bool, r0⟩]) a0 a1 hl.1 hl.2.1; ⟨n, (a_laws_eqIntS n a0 a1).trans (hn n (Nat.le_refl n) (fun  m v0_0 v0_1 v0_2 => L_laws_eqIntS_0 n  m (S_laws_eqIntS_0 v0_0 v0_1 v0_2)) (fun  m v0_0 v0_1 v0_2 => b_laws_eqIntS_0 n  m v0_0 v0_1 v0_2))⟩)
/-! laws.eqKeys -/
abbrev N.laws_eqKeys (a b : TKeys) : Bool := eqKeys a b
def laws_eqKeys {ρ : Type} (k : Bool → Option ρ) (a0 : TKeys) (a1 : TKeys) : Option ρ := (cond (!(N.laws_eqIntS a0.1 a1.1)) (k false) (cond (a0.2 != a1.2) (k false) (k true)))
theorem laws_eqKeys_ok {ρ : Type} (k : Bool → Option ρ) (a0 : TKeys) (a1 : TKeys) (l_a0 : (lnL (fun _ => True) a0.1 ∧ True)) (l_a1 : (lnL (fun _ => True) a1.1 ∧ True)) : laws_eqKeys k  a0 a1 = k (N.laws_eqKeys a0 a1) := by
  simp only [laws_eqKeys, N.laws_eqKeys, N.laws_eqIntS, eqKeys, bne]
  cases eqInts a0.1 a1.1 <;> cases a0.2 == a1.2 <;> rfl
def O_laws_eqKeys : Orac := (orcX 36 [.val (.slice 3 (.int .i64)), .val (.slice 3 (.int .i64))] (fun d => true) (fun d => [⟨.bool, N.laws_eqIntS d.1 d.2.1⟩]) nilO)
theorem ok_laws_eqKeys : OracOk Try.prog sigs O_laws_eqKeys := (orcX_ok rfl (fun d g => said_laws_eqIntS d.1 d.2.1) nilO_ok)
def A_laws_eqKeys : Ann := fun b => ⟨[], []⟩
theorem a_laws_eqKeys (n : Nat) (a0 : TKeys) (a1 : TKeys) : absF tab sigs O_laws_eqKeys A_laws_eqKeys Try.f17 [(.bool, .no)] n [.val (.pair (.slice 3 (.int .i64)) (.int .i64)) a0, .val (.pair (.slice 3 (.int .i64)) (.int .i64)) a1] = laws_eqKeys (fun r0 => some [⟨.bool, r0⟩])  a0 a1 := by kernel_rfl
theorem said_laws_eqKeys (a0 : TKeys) (a1 : TKeys) : Said Try.prog sigs_17 17 [.val (.pair (.slice 3 (.int .i64)) (.int .i64)) a0, .val (.pair (.slice 3 (.int .i64)) (.int .i64)) a1] [⟨.bool, N.laws_eqKeys a0 a1⟩] := said_len (T := tab) (A := A_laws_eqKeys) tabOk ok_laws_eqKeys tabOk.follows Try.func17 (by kernel_rfl) (by kernel_rfl) (fun hl => ⟨0, (a_laws_eqKeys 0 a0 a1).trans (laws_eqKeys_ok (ρ := Ret) (fun r0 => some [⟨.bool, r0⟩]) a0 a1 hl.1 hl.2.1)⟩)
/-! laws.szProof -/
abbrev G.laws_szProof (a : TProof) (left : Int) : Bool := gL left
abbrev N.laws_szProof (a : TProof) (left : Int) : Int := sub1 (wPr a) left
def laws_szProof {ρ : Type} (k : Int → Option ρ) (a0 : TProof) (a1 : Int) : Option ρ := (cond (G.laws_szIntS a0.2 a1) (cond (decide ((N.laws_szIntS a0.2 a1) < (0 : Int))) (k (-1 : Int)) (k (N.laws_szIntS a0.2 a1))) none)
theorem laws_szProof_ok {ρ : Type} (k : Int → Option ρ) (a0 : TProof) (a1 : Int) (l_a0 : (True ∧ lnL (fun _ => True) a0.2)) (g : G.laws_szProof a0 a1 = true) : laws_szProof k  a0 a1 = k (N.laws_szProof a0 a1) := by
  unfold G.laws_szProof at g
  show cond (gL a1) _ none = _
  rw [g]
  exact sz_last
def O_laws_szProof : Orac := (orcX 34 [.val (.slice 3 (.int .i64)), .val (.int .i64)] (fun d => G.laws_szIntS d.1 d.2.1) (fun d => [⟨(.int .i64), N.laws_szIntS d.1 d.2.1⟩]) nilO)
theorem ok_laws_szProof : OracOk Try.prog sigs O_laws_szProof := (orcX_ok rfl (fun d g => said_laws_szIntS d.1 d.2.1 g) nilO_ok)
def A_laws_szProof : Ann := fun b => ⟨[], []⟩
theorem a_laws_szProof (n : Nat) (a0 : TProof) (a1 : Int) : absF tab sigs O_laws_szProof A_laws_szProof Try.f18 [((.int .i64), .no)] n [.val (.pair (.int .i64) (.slice 3 (.int .i64))) a0, .val (.int .i64) a1] = laws_szProof (fun r0 => some [⟨(.int .i64), r0⟩])  a0 a1 := by kernel_rfl
theorem said_laws_szProof (a0 : TProof) (a1 : Int) (g : G.laws_szProof a0 a1 = true) : Said Try.prog sigs_18 18 [.val (.pair (.int .i64) (.slice 3 (.int .i64))) a0, .val (.int .i64) a1] [⟨(.int .i64), N.laws_szProof a0 a1⟩] := said_len (T := tab) (A := A_laws_szProof) tabOk ok_laws_szProof tabOk.follows Try.func18 (by kernel_rfl) (by kernel_rfl) (fun hl => ⟨0, (a_laws_szProof 0 a0 a1).trans (laws_szProof_ok (ρ := Ret) (fun r0 => some [⟨(.int .i64), r0⟩]) a0 a1 hl.1 g)⟩)
/-! laws.toProof -/
abbrev G.laws_toProof (a : TProof) : Bool := decide (wPr a ≤ 1048576)
abbrev N.laws_toProof (a : TProof) : TProof := a
def laws_toProof {ρ : Type} (k : TProof → Option ρ) (a0 : TProof) : Option ρ := (cond (G.laws_toIntS a0.2) (k (a0.1, (N.laws_toIntS a0.2))) none)
theorem laws_toProof_ok {ρ : Type} (k : TProof → Option ρ) (a0 : TProof) (l_a0 : (True ∧ lnL (fun _ => True) a0.2)) (g : G.laws_toProof a0 = true) : laws_toProof k  a0 = k (N.laws_toProof a0) := by
  unfold G.laws_toProof at g
  show cond (decide (wPr a0 ≤ 1048576)) _ none = _
  rw [g]
  rfl
def O_laws_toProof : Orac := (orcX 35 [.val (.slice 3 (.int .i64))] (fun d => G.laws_toIntS d.1) (fun d => [⟨(.slice 3 (.int .i64)), N.laws_toIntS d.1⟩]) nilO)
theorem ok_laws_toProof : OracOk Try.prog sigs O_laws_toProof := (orcX_ok rfl (fun d g => said_laws_toIntS d.1 g) nilO_ok)
def A_laws_toProof : Ann := fun b => ⟨[], []⟩
theorem a_laws_toProof (n : Nat) (a0 : TProof) : absF tab sigs O_laws_toProof A_laws_toProof Try.f20 [((.pair (.int .i64) (.slice 3 (.int .i64))), (.pair .no (.own 0)))] n [.val (.pair (.int .i64) (.slice 3 (.int .i64))) a0] = laws_toProof (fun r0 => some [⟨(.pair (.int .i64) (.slice 3 (.int .i64))), r0⟩])  a0 := by kernel_rfl
theorem said_laws_toProof (a0 : TProof) (g : G.laws_toProof a0 = true) : Said Try.prog sigs_20 20 [.val (.pair (.int .i64) (.slice 3 (.int .i64))) a0] [⟨(.pair (.int .i64) (.slice 3 (.int .i64))), N.laws_toProof a0⟩] := said_len (T := tab) (A := A_laws_toProof) tabOk ok_laws_toProof tabOk.follows Try.func20 (by kernel_rfl) (by kernel_rfl) (fun hl => ⟨0, (a_laws_toProof 0 a0).trans (laws_toProof_ok (ρ := Ret) (fun r0 => some [⟨(.pair (.int .i64) (.slice 3 (.int .i64))), r0⟩]) a0 hl.1 g)⟩)
/-! spec.SizeOfProof -/
abbrev N.spec_SizeOfProof (p : TProof) : Int := IntKind.wrap .i64 ((p.2.length : Int) + 1)
def spec_SizeOfProof {ρ : Type} (k : Int → Option ρ) (a0 : TProof) : Option ρ := (k (IntKind.wrap .i64 ((List.length a0.2 : Int) + (1 : Int))))
theorem spec_SizeOfProof_ok {ρ : Type} (k : Int → Option ρ) (a0 : TProof) (l_a0 : (True ∧ lnL (fun _ => True) a0.2)) : spec_SizeOfProof k  a0 = k (N.spec_SizeOfProof a0) := by
  rfl
def O_spec_SizeOfProof : Orac := nilO
theorem ok_spec_SizeOfProof : OracOk Try.prog sigs O_spec_SizeOfProof := nilO_ok
def A_spec_SizeOfProof : Ann := fun b => ⟨[], []⟩
theorem a_spec_SizeOfProof (n : Nat) (a0 : TProof) : absF tab sigs O_spec_SizeOfProof A_spec_SizeOfProof Try.f19 [((.int .i64), .no)] n [.val (.pair (.int .i64) (.slice 3 (.int .i64))) a0] = spec_SizeOfProof (fun r0 => some [⟨(.int .i64), r0⟩])  a0 := by kernel_rfl
theorem said_spec_SizeOfProof (a0 : TProof) : Said Try.prog sigs_19 19 [.val (.pair (.int .i64) (.slice 3 (.int .i64))) a0] [⟨(.int .i64), N.spec_SizeOfProof a0⟩] := said_len (T := tab) (A := A_spec_SizeOfProof) tabOk ok_spec_SizeOfProof tabOk.follows Try.func19 (by kernel_rfl) (by kernel_rfl) (fun hl => ⟨0, (a_spec_SizeOfProof 0 a0).trans (spec_SizeOfProof_ok (ρ := Ret) (fun r0 => some [⟨(.int .i64), r0⟩]) a0 hl.1)⟩)
/-! impl.SizeOfProof -/
abbrev N.impl_SizeOfProof (p : TProof) : Int := IntKind.wrap .i64 ((p.2.length : Int) + 1)
def impl_SizeOfProof {ρ : Type} (k : Int → Option ρ) (a0 : TProof) : Option ρ := (k (IntKind.wrap .i64 ((List.length a0.2 : Int) + (1 : Int))))
theorem impl_SizeOfProof_ok {ρ : Type} (k : Int → Option ρ) (a0 : TProof) (l_a0 : (True ∧ lnL (fun _ => True) a0.2)) : impl_SizeOfProof k  a0 = k (N.impl_SizeOfProof a0) := by
  rfl
def O_impl_SizeOfProof : Orac := nilO
theorem ok_impl_SizeOfProof : OracOk Try.prog sigs O_impl_SizeOfProof := nilO_ok
def A_impl_SizeOfProof : Ann := fun b => ⟨[], []⟩
theorem a_impl_SizeOfProof (n : Nat) (a0 : TProof) : absF tab sigs O_impl_SizeOfProof A_impl_SizeOfProof Try.f21 [((.int .i64), .no)] n [.val (.pair (.int .i64) (.slice 3 (.int .i64))) a0] = impl_SizeOfProof (fun r0 => some [⟨(.int .i64), r0⟩])  a0 := by kernel_rfl
theorem said_impl_SizeOfProof (a0 : TProof) : Said Try.prog sigs_21 21 [.val (.pair (.int .i64) (.slice 3 (.int .i64))) a0] [⟨(.int .i64), N.impl_SizeOfProof a0⟩] := said_len (T := tab) (A := A_impl_SizeOfProof) tabOk ok_impl_SizeOfProof tabOk.follows Try.func21 (by kernel_rfl) (by kernel_rfl) (fun hl => ⟨0, (a_impl_SizeOfProof 0 a0).trans (impl_SizeOfProof_ok (ρ := Ret) (fun r0 => some [⟨(.int .i64), r0⟩]) a0 hl.1)⟩)
/-! laws.eqProof -/
abbrev N.laws_eqProof (a b : TProof) : Bool := eqProof a b
def laws_eqProof {ρ : Type} (k : Bool → Option ρ) (a0 : TProof) (a1 : TProof) : Option ρ := (cond (a0.1 != a1.1) (k false) (cond (!(N.laws_eqIntS a0.2 a1.2)) (k false) (k true)))
theorem laws_eqProof_ok {ρ : Type} (k : Bool → Option ρ) (a0 : TProof) (a1 : TProof) (l_a0 : (True ∧ lnL (fun _ => True) a0.2)) (l_a1 : (True ∧ lnL (fun _ => True) a1.2)) : laws_eqProof k  a0 a1 = k (N.laws_eqProof a0 a1) := by
  simp only [laws_eqProof, N.laws_eqProof, N.laws_eqIntS, eqProof, bne]
  cases eqInts a0.2 a1.2 <;> cases a0.1 == a1.1 <;> rfl
def O_laws_eqProof : Orac := (orcX 36 [.val (.slice 3 (.int .i64)), .val (.slice 3 (.int .i64))] (fun d => true) (fun d => [⟨.bool, N.laws_eqIntS d.1 d.2.1⟩]) nilO)
theorem ok_laws_eqProof : OracOk Try.prog sigs O_laws_eqProof := (orcX_ok rfl (fun d g => said_laws_eqIntS d.1 d.2.1) nilO_ok)
def A_laws_eqProof : Ann := fun b => ⟨[], []⟩
theorem a_laws_eqProof (n : Nat) (a0 : TProof) (a1 : TProof) : absF tab sigs O_laws_eqProof A_laws_eqProof Try.f22 [(.bool, .no)] n [.val (.pair (.int .i64) (.slice 3 (.int .i64))) a0, .val (.pair (.int .i64) (.slice 3 (.int .i64))) a1] = laws_eqProof (fun r0 => some [⟨.bool, r0⟩])  a0 a1 := by kernel_rfl
theorem said_laws_eqProof (a0 : TProof) (a1 : TProof) : Said Try.prog sigs_22 22 [.val (.pair (.int .i64) (.slice 3 (.int .i64))) a0, .val (.pair (.int .i64) (.slice 3 (.int .i64))) a1] [⟨.bool, N.laws_eqProof a0 a1⟩] := said_len (T := tab) (A := A_laws_eqProof) tabOk ok_laws_eqProof tabOk.follows Try.func22 (by kernel_rfl) (by kernel_rfl) (fun hl => ⟨0, (a_laws_eqProof 0 a0 a1).trans (laws_eqProof_ok (ρ := Ret) (fun r0 => some [⟨.bool, r0⟩]) a0 a1 hl.1 hl.2.1)⟩)
end Go.Proofs.Ytnhkdfcggcoemaa.Ref
