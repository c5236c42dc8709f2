/- Functions of the program: what each computes, and that it does so.
   Conditions: as each theorem states. -/
import Derived.Test.YtlaobplhnelniaaSA
set_option linter.unusedVariables false
set_option linter.unusedSimpArgs false
set_option maxRecDepth 100000
namespace Go.Proofs.Ytlaobplhnelniaa.Ref
open Go.RowKit Go.Proofs.YtlaobplhnelniaaW.PrintWords Go.Proofs.YtlaobplhnelniaaW.PrintLast
/-! laws.szIntS -/
abbrev G.laws_szIntS (a : List Int) (left : Int) : Bool := gL left
abbrev N.laws_szIntS (a : List Int) (left : Int) : Int := sub1 a.length left
def laws_szIntS {ρ : Type} (k : Int → Option ρ) (a0 : (List Int)) (a1 : Int) : Option ρ := (cond (decide ((IntKind.wrap .i64 (a1 - (List.length a0 : Int))) < (0 : Int))) (k (-1 : Int)) (k (IntKind.wrap .i64 (a1 - (List.length a0 : Int)))))
theorem laws_szIntS_ok {ρ : Type} (k : Int → Option ρ) (a0 : (List Int)) (a1 : Int) (l_a0 : lnL (fun _ => True) a0) (g : G.laws_szIntS a0 a1 = true) : laws_szIntS k  a0 a1 = k (N.laws_szIntS a0 a1) := by
  unfold G.laws_szIntS at g
  exact sz_first (v := 0) (c := k) g l_a0.1 (fun g' => by
    have : 0 ≤ sub1 a0.length a1 := of_decide_eq_true ((Bool.and_eq_true _ _).mp g').1
    rw [sub1_pos (w := 0) (by omega)]
    simp)
def O_laws_szIntS : Orac := nilO
theorem ok_laws_szIntS : OracOk Try.prog sigs O_laws_szIntS := nilO_ok
def A_laws_szIntS : Ann := fun b => ⟨[], []⟩
theorem a_laws_szIntS (n : Nat) (a0 : (List Int)) (a1 : Int) : absF tab sigs O_laws_szIntS A_laws_szIntS Try.f51 [((.int .i64), .no)] n [.val (.slice 3 (.int .i64)) a0, .val (.int .i64) a1] = laws_szIntS (fun r0 => some [⟨(.int .i64), r0⟩])  a0 a1 := by kernel_rfl
theorem said_laws_szIntS (a0 : (List Int)) (a1 : Int) (g : G.laws_szIntS a0 a1 = true) : Said Try.prog sigs_51 51 [.val (.slice 3 (.int .i64)) a0, .val (.int .i64) a1] [⟨(.int .i64), N.laws_szIntS a0 a1⟩] := said_len (T := tab) (A := A_laws_szIntS) tabOk ok_laws_szIntS tabOk.follows Try.func51 (by kernel_rfl) (by kernel_rfl) (fun hl => ⟨0, (a_laws_szIntS 0 a0 a1).trans (laws_szIntS_ok (ρ := Ret) (fun r0 => some [⟨(.int .i64), r0⟩]) a0 a1 hl.1 g)⟩)
/-! laws.szKeys -/
abbrev G.laws_szKeys (a : TKeys) (left : Int) : Bool := gL left
abbrev N.laws_szKeys (a : TKeys) (left : Int) : Int := sub1 (wK a) left
def laws_szKeys {ρ : Type} (k : Int → Option ρ) (a0 : TKeys) (a1 : Int) : Option ρ := (cond (G.laws_szIntS a0.1 a1) (cond (decide ((N.laws_szIntS a0.1 a1) < (0 : Int))) (k (-1 : Int)) (k (N.laws_szIntS a0.1 a1))) none)
theorem laws_szKeys_ok {ρ : Type} (k : Int → Option ρ) (a0 : TKeys) (a1 : Int) (l_a0 : (lnL (fun _ => True) a0.1 ∧ True)) (g : G.laws_szKeys a0 a1 = true) : laws_szKeys k  a0 a1 = k (N.laws_szKeys a0 a1) := by
  unfold G.laws_szKeys at g
  show cond (gL a1) _ none = _
  rw [g]
  exact sz_last
def OP_laws_szKeys (f_laws_szIntS : (List Int) → Int → Int) (g_laws_szIntS : (List Int) → Int → Bool) : Orac := (orcX 51 [.val (.slice 3 (.int .i64)), .val (.int .i64)] (fun d => g_laws_szIntS d.1 d.2.1) (fun d => [⟨(.int .i64), f_laws_szIntS d.1 d.2.1⟩]) nilO)
def O_laws_szKeys : Orac := OP_laws_szKeys N.laws_szIntS G.laws_szIntS
def laws_szKeys_P {ρ : Type} (f_laws_szIntS : (List Int) → Int → Int) (g_laws_szIntS : (List Int) → Int → Bool) (k : Int → Option ρ) (a0 : TKeys) (a1 : Int) : Option ρ := (cond (g_laws_szIntS a0.1 a1) (cond (decide ((f_laws_szIntS a0.1 a1) < (0 : Int))) (k (-1 : Int)) (k (f_laws_szIntS a0.1 a1))) none)
theorem ok_laws_szKeys : OracOk Try.prog sigs O_laws_szKeys := (orcX_ok rfl (fun d g => said_laws_szIntS d.1 d.2.1 g) nilO_ok)
def A_laws_szKeys : Ann := fun b => ⟨[], []⟩
theorem aP_laws_szKeys (f_laws_szIntS : (List Int) → Int → Int) (g_laws_szIntS : (List Int) → Int → Bool) (n : Nat) (a0 : TKeys) (a1 : Int) : absF tab sigs (OP_laws_szKeys f_laws_szIntS g_laws_szIntS) A_laws_szKeys Try.f28 [((.int .i64), .no)] n [.val (.pair (.slice 3 (.int .i64)) (.int .i64)) a0, .val (.int .i64) a1] = laws_szKeys_P f_laws_szIntS g_laws_szIntS (fun r0 => some [⟨(.int .i64), r0⟩])  a0 a1 := by kernel_rfl
theorem a_laws_szKeys (n : Nat) (a0 : TKeys) (a1 : Int) : absF tab sigs O_laws_szKeys A_laws_szKeys Try.f28 [((.int .i64), .no)] n [.val (.pair (.slice 3 (.int .i64)) (.int .i64)) a0, .val (.int .i64) a1] = laws_szKeys (fun r0 => some [⟨(.int .i64), r0⟩])  a0 a1 := aP_laws_szKeys N.laws_szIntS G.laws_szIntS n a0 a1
theorem said_laws_szKeys (a0 : TKeys) (a1 : Int) (g : G.laws_szKeys a0 a1 = true) : Said Try.prog sigs_28 28 [.val (.pair (.slice 3 (.int .i64)) (.int .i64)) a0, .val (.int .i64) a1] [⟨(.int .i64), N.laws_szKeys a0 a1⟩] := said_len (T := tab) (A := A_laws_szKeys) tabOk ok_laws_szKeys tabOk.follows Try.func28 (by kernel_rfl) (by kernel_rfl) (fun hl => ⟨0, (a_laws_szKeys 0 a0 a1).trans (laws_szKeys_ok (ρ := Ret) (fun r0 => some [⟨(.int .i64), r0⟩]) a0 a1 hl.1 g)⟩)
/-! laws.szHead -/
abbrev G.laws_szHead (a : THead) (left : Int) : Bool := gL left
abbrev N.laws_szHead (a : THead) (left : Int) : Int := sub1 (wH a) left
def laws_szHead {ρ : Type} (k : Int → Option ρ) (a0 : THead) (a1 : Int) : Option ρ := (cond (G.laws_szKeys a0.2.2.2.2.2.2.2.2.1 a1) (cond (decide ((N.laws_szKeys a0.2.2.2.2.2.2.2.2.1 a1) < (0 : Int))) (k (-1 : Int)) (cond (G.laws_szKeys a0.2.2.2.2.2.2.2.2.2.1 (N.laws_szKeys a0.2.2.2.2.2.2.2.2.1 a1)) (cond (decide ((N.laws_szKeys a0.2.2.2.2.2.2.2.2.2.1 (N.laws_szKeys a0.2.2.2.2.2.2.2.2.1 a1)) < (0 : Int))) (k (-1 : Int)) (cond (G.laws_szKeys a0.2.2.2.2.2.2.2.2.2.2.2.1 (N.laws_szKeys a0.2.2.2.2.2.2.2.2.2.1 (N.laws_szKeys a0.2.2.2.2.2.2.2.2.1 a1))) (cond (decide ((N.laws_szKeys a0.2.2.2.2.2.2.2.2.2.2.2.1 (N.laws_szKeys a0.2.2.2.2.2.2.2.2.2.1 (N.laws_szKeys a0.2.2.2.2.2.2.2.2.1 a1))) < (0 : Int))) (k (-1 : Int)) (k (N.laws_szKeys a0.2.2.2.2.2.2.2.2.2.2.2.1 (N.laws_szKeys a0.2.2.2.2.2.2.2.2.2.1 (N.laws_szKeys a0.2.2.2.2.2.2.2.2.1 a1))))) none)) none)) none)
theorem laws_szHead_ok {ρ : Type} (k : Int → Option ρ) (a0 : THead) (a1 : Int) (l_a0 : (True ∧ (True ∧ (True ∧ (True ∧ (True ∧ (True ∧ (True ∧ (True ∧ ((lnL (fun _ => True) a0.2.2.2.2.2.2.2.2.1.1 ∧ True) ∧ ((lnL (fun _ => True) a0.2.2.2.2.2.2.2.2.2.1.1 ∧ True) ∧ (True ∧ ((lnL (fun _ => True) a0.2.2.2.2.2.2.2.2.2.2.2.1.1 ∧ True) ∧ True))))))))))))) (g : G.laws_szHead a0 a1 = true) : laws_szHead k  a0 a1 = k (N.laws_szHead a0 a1) := by
  unfold G.laws_szHead at g
  show cond (gL a1) _ none = _
  rw [g]
  refine sz_then g (fun g1 => ?_)
  show cond (gL _) _ none = _
  rw [g1]
  refine sz_then g1 (fun g2 => ?_)
  show cond (gL _) _ none = _
  rw [g2]
  exact sz_last
def OP_laws_szHead (f_laws_szKeys : TKeys → Int → Int) (g_laws_szKeys : TKeys → Int → Bool) : Orac := (orcX 28 [.val (.pair (.slice 3 (.int .i64)) (.int .i64)), .val (.int .i64)] (fun d => g_laws_szKeys d.1 d.2.1) (fun d => [⟨(.int .i64), f_laws_szKeys d.1 d.2.1⟩]) nilO)
def O_laws_szHead : Orac := OP_laws_szHead N.laws_szKeys G.laws_szKeys
def laws_szHead_P {ρ : Type} (f_laws_szKeys : TKeys → Int → Int) (g_laws_szKeys : TKeys → Int → Bool) (k : Int → Option ρ) (a0 : THead) (a1 : Int) : Option ρ := (cond (g_laws_szKeys a0.2.2.2.2.2.2.2.2.1 a1) (cond (decide ((f_laws_szKeys a0.2.2.2.2.2.2.2.2.1 a1) < (0 : Int))) (k (-1 : Int)) (cond (g_laws_szKeys a0.2.2.2.2.2.2.2.2.2.1 (f_laws_szKeys a0.2.2.2.2.2.2.2.2.1 a1)) (cond (decide ((f_laws_szKeys a0.2.2.2.2.2.2.2.2.2.1 (f_laws_szKeys a0.2.2.2.2.2.2.2.2.1 a1)) < (0 : Int))) (k (-1 : Int)) (cond (g_laws_szKeys a0.2.2.2.2.2.2.2.2.2.2.2.1 (f_laws_szKeys a0.2.2.2.2.2.2.2.2.2.1 (f_laws_szKeys a0.2.2.2.2.2.2.2.2.1 a1))) (cond (decide ((f_laws_szKeys a0.2.2.2.2.2.2.2.2.2.2.2.1 (f_laws_szKeys a0.2.2.2.2.2.2.2.2.2.1 (f_laws_szKeys a0.2.2.2.2.2.2.2.2.1 a1))) < (0 : Int))) (k (-1 : Int)) (k (f_laws_szKeys a0.2.2.2.2.2.2.2.2.2.2.2.1 (f_laws_szKeys a0.2.2.2.2.2.2.2.2.2.1 (f_laws_szKeys a0.2.2.2.2.2.2.2.2.1 a1))))) none)) none)) none)
theorem ok_laws_szHead : OracOk Try.prog sigs O_laws_szHead := (orcX_ok rfl (fun d g => said_laws_szKeys d.1 d.2.1 g) nilO_ok)
def A_laws_szHead : Ann := fun b => ⟨[], []⟩
theorem aP_laws_szHead (f_laws_szKeys : TKeys → Int → Int) (g_laws_szKeys : TKeys → Int → Bool) (n : Nat) (a0 : THead) (a1 : Int) : absF tab sigs (OP_laws_szHead f_laws_szKeys g_laws_szKeys) A_laws_szHead Try.f9 [((.int .i64), .no)] n [.val (.pair (.int .i64) (.pair (.int .i64) (.pair (.int .i64) (.pair (.int .i64) (.pair (.int .i64) (.pair (.int .i64) (.pair (.int .i64) (.pair (.int .i64) (.pair (.pair (.slice 3 (.int .i64)) (.int .i64)) (.pair (.pair (.slice 3 (.int .i64)) (.int .i64)) (.pair (.int .i64) (.pair (.pair (.slice 3 (.int .i64)) (.int .i64)) .bool)))))))))))) a0, .val (.int .i64) a1] = laws_szHead_P f_laws_szKeys g_laws_szKeys (fun r0 => some [⟨(.int .i64), r0⟩])  a0 a1 := by kernel_rfl
theorem a_laws_szHead (n : Nat) (a0 : THead) (a1 : Int) : absF tab sigs O_laws_szHead A_laws_szHead Try.f9 [((.int .i64), .no)] n [.val (.pair (.int .i64) (.pair (.int .i64) (.pair (.int .i64) (.pair (.int .i64) (.pair (.int .i64) (.pair (.int .i64) (.pair (.int .i64) (.pair (.int .i64) (.pair (.pair (.slice 3 (.int .i64)) (.int .i64)) (.pair (.pair (.slice 3 (.int .i64)) (.int .i64)) (.pair (.int .i64) (.pair (.pair (.slice 3 (.int .i64)) (.int .i64)) .bool)))))))))))) a0, .val (.int .i64) a1] = laws_szHead (fun r0 => some [⟨(.int .i64), r0⟩])  a0 a1 := aP_laws_szHead N.laws_szKeys G.laws_szKeys n a0 a1
theorem said_laws_szHead (a0 : THead) (a1 : Int) (g : G.laws_szHead a0 a1 = true) : Said Try.prog sigs_9 9 [.val (.pair (.int .i64) (.pair (.int .i64) (.pair (.int .i64) (.pair (.int .i64) (.pair (.int .i64) (.pair (.int .i64) (.pair (.int .i64) (.pair (.int .i64) (.pair (.pair (.slice 3 (.int .i64)) (.int .i64)) (.pair (.pair (.slice 3 (.int .i64)) (.int .i64)) (.pair (.int .i64) (.pair (.pair (.slice 3 (.int .i64)) (.int .i64)) .bool)))))))))))) a0, .val (.int .i64) a1] [⟨(.int .i64), N.laws_szHead a0 a1⟩] := said_len (T := tab) (A := A_laws_szHead) tabOk ok_laws_szHead tabOk.follows Try.func9 (by kernel_rfl) (by kernel_rfl) (fun hl => ⟨0, (a_laws_szHead 0 a0 a1).trans (laws_szHead_ok (ρ := Ret) (fun r0 => some [⟨(.int .i64), r0⟩]) a0 a1 hl.1 g)⟩)
/-! laws.toIntS -/
abbrev G.laws_toIntS (a : List Int) : Bool := decide (a.length ≤ 1048576)
abbrev N.laws_toIntS (a : List Int) : List Int := a
def laws_toIntS_L0 {ρ : Type} (k : (List Int) → Option ρ) (L0 : (List Int) → Int → (List Int) → Option ρ) (v0_0 : (List Int)) (v0_1 : Int) (v0_2 : (List Int)) : Option ρ := (cond (decide (v0_1 < (List.length v0_0 : Int))) (cond (inRange v0_1 (List.length v0_0)) (cond (inRange v0_1 (List.length v0_2)) (cond (inRange v0_1 (List.length v0_2)) (L0 v0_0 (IntKind.wrap .i64 (v0_1 + (1 : Int))) (List.set v0_2 (Int.toNat v0_1) (List.getD v0_0 (Int.toNat v0_1) (0 : Int)))) none) none) none) (k v0_2))
def laws_toIntS {ρ : Type} (k : (List Int) → Option ρ) (L0 : (List Int) → Int → (List Int) → Option ρ) (a0 : (List Int)) : Option ρ := (cond (decide (0 ≤ (List.length a0 : Int)) && decide ((List.length a0 : Int) ≤ 1099511627776)) (L0 a0 (0 : Int) (List.replicate (Int.toNat (List.length a0 : Int)) (0 : Int))) none)
theorem laws_toIntS_ok {ρ : Type} (k : (List Int) → Option ρ) (a0 : (List Int)) (l_a0 : lnL (fun _ => True) a0) (g : G.laws_toIntS a0 = true) : ∃ n0, ∀ n, n0 ≤ n → ∀ (L0 : Nat → (List Int) → Int → (List Int) → Option ρ) (h0 : ∀ ( m : Nat) (v0_0 : (List Int)) (v0_1 : Int) (v0_2 : (List Int)), L0 (m + 1) v0_0 v0_1 v0_2 = laws_toIntS_L0 k (L0 m) v0_0 v0_1 v0_2), laws_toIntS k (L0 n) a0 = k (N.laws_toIntS a0) := by
  unfold G.laws_toIntS at g
  refine ⟨a0.length + 1, fun n hn L0 h0 => ?_⟩
  have g' : a0.length ≤ 1048576 := by simpa using g
  have hg : (decide (0 ≤ (a0.length : Int)) && decide ((a0.length : Int) ≤ 1099511627776)) = true := by simp; omega
  show cond _ _ none = _
  rw [hg]
  refine (raw_copy (a := a0) 0 0 (fun x => x) (k := k) (L := fun m i out => L0 m a0 i out) (R := fun i out c => laws_toIntS_L0 k (fun _ i out => c i out) a0 i out) (fun m i s => h0 m a0 i s) (fun j out c hj hl => ?_) (fun s c => ?_) hn).trans (by simp)
  · simp [laws_toIntS_L0, lt_nat, inRange_nat, hj, hl, wrap_succ (j := j) (by unfold big; omega)]
  · simp [laws_toIntS_L0]
def O_laws_toIntS : Orac := nilO
theorem ok_laws_toIntS : OracOk Try.prog sigs O_laws_toIntS := nilO_ok
def A_laws_toIntS : Ann := fun b => cond (Nat.beq b 0) ⟨[(0, false), (3, true), (4, false)], []⟩ (⟨[], []⟩)
def S_laws_toIntS_0 (v0_0 : (List Int)) (v0_1 : Int) (v0_2 : (List Int)) : St := [(kT 0, some (.tv (.v (.slice 3 (.int .i64)) v0_0 .no))), (kT 3, some (.tv (.v (.slice 3 (.int .i64)) [] (.own 24)))), (kT 4, some (.tv (.v (.int .i64) v0_1 .no))), (kR 24, some (.row 3 (.int .i64) v0_2))]
noncomputable def L_laws_toIntS_0 (n m : Nat) : St → Option Ret := loopOf tab sigs O_laws_toIntS A_laws_toIntS Try.f52 [((.slice 3 (.int .i64)), (.own 0))] n (fun _ => 0) 0 m
theorem b_laws_toIntS_0 (n m : Nat) (v0_0 : (List Int)) (v0_1 : Int) (v0_2 : (List Int)) : L_laws_toIntS_0 n (m + 1) (S_laws_toIntS_0 v0_0 v0_1 v0_2) = laws_toIntS_L0 (fun r0 => some [⟨(.slice 3 (.int .i64)), r0⟩]) (fun v0_0 v0_1 v0_2 => L_laws_toIntS_0 n m (S_laws_toIntS_0 v0_0 v0_1 v0_2)) v0_0 v0_1 v0_2 := by kernel_rfl
theorem a_laws_toIntS (n : Nat) (a0 : (List Int)) : absF tab sigs O_laws_toIntS A_laws_toIntS Try.f52 [((.slice 3 (.int .i64)), (.own 0))] n [.val (.slice 3 (.int .i64)) a0] = laws_toIntS (fun r0 => some [⟨(.slice 3 (.int .i64)), r0⟩]) (fun v0_0 v0_1 v0_2 => L_laws_toIntS_0 n n (S_laws_toIntS_0 v0_0 v0_1 v0_2)) a0 := by kernel_rfl
theorem said_laws_toIntS (a0 : (List Int)) (g : G.laws_toIntS a0 = true) : Said Try.prog sigs_52 52 [.val (.slice 3 (.int .i64)) a0] [⟨(.slice 3 (.int .i64)), N.laws_toIntS a0⟩] := said_len (T := tab) (A := A_laws_toIntS) tabOk ok_laws_toIntS tabOk.follows Try.func52 (by kernel_rfl) (by kernel_rfl) (fun hl => let ⟨n, hn⟩ := laws_toIntS_ok (ρ := Ret) (fun r0 => some [⟨(.slice 3 (.int .i64)), r0⟩]) a0 hl.1 g; ⟨n, (a_laws_toIntS n a0).trans (hn n (Nat.le_refl n) (fun  m v0_0 v0_1 v0_2 => L_laws_toIntS_0 n  m (S_laws_toIntS_0 v0_0 v0_1 v0_2)) (fun  m v0_0 v0_1 v0_2 => b_laws_toIntS_0 n  m v0_0 v0_1 v0_2))⟩)
/-! laws.toKeys -/
abbrev G.laws_toKeys (a : TKeys) : Bool := decide (wK a ≤ 1048576)
abbrev N.laws_toKeys (a : TKeys) : TKeys := a
def laws_toKeys {ρ : Type} (k : TKeys → Option ρ) (a0 : TKeys) : Option ρ := (cond (G.laws_toIntS a0.1) (k ((N.laws_toIntS a0.1), a0.2)) none)
theorem laws_toKeys_ok {ρ : Type} (k : TKeys → Option ρ) (a0 : TKeys) (l_a0 : (lnL (fun _ => True) a0.1 ∧ True)) (g : G.laws_toKeys a0 = true) : laws_toKeys k  a0 = k (N.laws_toKeys a0) := by
  unfold G.laws_toKeys at g
  show cond (decide (wK a0 ≤ 1048576)) _ none = _
  rw [g]
  rfl
def OP_laws_toKeys (f_laws_toIntS : (List Int) → (List Int)) (g_laws_toIntS : (List Int) → Bool) : Orac := (orcX 52 [.val (.slice 3 (.int .i64))] (fun d => g_laws_toIntS d.1) (fun d => [⟨(.slice 3 (.int .i64)), f_laws_toIntS d.1⟩]) nilO)
def O_laws_toKeys : Orac := OP_laws_toKeys N.laws_toIntS G.laws_toIntS
def laws_toKeys_P {ρ : Type} (f_laws_toIntS : (List Int) → (List Int)) (g_laws_toIntS : (List Int) → Bool) (k : TKeys → Option ρ) (a0 : TKeys) : Option ρ := (cond (g_laws_toIntS a0.1) (k ((f_laws_toIntS a0.1), a0.2)) none)
theorem ok_laws_toKeys : OracOk Try.prog sigs O_laws_toKeys := (orcX_ok rfl (fun d g => said_laws_toIntS d.1 g) nilO_ok)
def A_laws_toKeys : Ann := fun b => ⟨[], []⟩
theorem aP_laws_toKeys (f_laws_toIntS : (List Int) → (List Int)) (g_laws_toIntS : (List Int) → Bool) (n : Nat) (a0 : TKeys) : absF tab sigs (OP_laws_toKeys f_laws_toIntS g_laws_toIntS) A_laws_toKeys Try.f30 [((.pair (.slice 3 (.int .i64)) (.int .i64)), (.pair (.own 0) .no))] n [.val (.pair (.slice 3 (.int .i64)) (.int .i64)) a0] = laws_toKeys_P f_laws_toIntS g_laws_toIntS (fun r0 => some [⟨(.pair (.slice 3 (.int .i64)) (.int .i64)), r0⟩])  a0 := by kernel_rfl
theorem a_laws_toKeys (n : Nat) (a0 : TKeys) : absF tab sigs O_laws_toKeys A_laws_toKeys Try.f30 [((.pair (.slice 3 (.int .i64)) (.int .i64)), (.pair (.own 0) .no))] n [.val (.pair (.slice 3 (.int .i64)) (.int .i64)) a0] = laws_toKeys (fun r0 => some [⟨(.pair (.slice 3 (.int .i64)) (.int .i64)), r0⟩])  a0 := aP_laws_toKeys N.laws_toIntS G.laws_toIntS n a0
theorem said_laws_toKeys (a0 : TKeys) (g : G.laws_toKeys a0 = true) : Said Try.prog sigs_30 30 [.val (.pair (.slice 3 (.int .i64)) (.int .i64)) a0] [⟨(.pair (.slice 3 (.int .i64)) (.int .i64)), N.laws_toKeys a0⟩] := said_len (T := tab) (A := A_laws_toKeys) tabOk ok_laws_toKeys tabOk.follows Try.func30 (by kernel_rfl) (by kernel_rfl) (fun hl => ⟨0, (a_laws_toKeys 0 a0).trans (laws_toKeys_ok (ρ := Ret) (fun r0 => some [⟨(.pair (.slice 3 (.int .i64)) (.int .i64)), r0⟩]) a0 hl.1 g)⟩)
/-! laws.toHead -/
abbrev G.laws_toHead (a : THead) : Bool := decide (wH a ≤ 1048576)
abbrev N.laws_toHead (a : THead) : THead := a
def laws_toHead {ρ : Type} (k : THead → Option ρ) (a0 : THead) : Option ρ := (cond (G.laws_toKeys a0.2.2.2.2.2.2.2.2.1) (cond (G.laws_toKeys a0.2.2.2.2.2.2.2.2.2.1) (cond (G.laws_toKeys a0.2.2.2.2.2.2.2.2.2.2.2.1) (k (a0.1, (a0.2.1, (a0.2.2.1, (a0.2.2.2.1, (a0.2.2.2.2.1, (a0.2.2.2.2.2.1, (a0.2.2.2.2.2.2.1, (a0.2.2.2.2.2.2.2.1, ((N.laws_toKeys a0.2.2.2.2.2.2.2.2.1), ((N.laws_toKeys a0.2.2.2.2.2.2.2.2.2.1), (a0.2.2.2.2.2.2.2.2.2.2.1, ((N.laws_toKeys a0.2.2.2.2.2.2.2.2.2.2.2.1), a0.2.2.2.2.2.2.2.2.2.2.2.2))))))))))))) none) none) none)
theorem laws_toHead_ok {ρ : Type} (k : THead → Option ρ) (a0 : THead) (l_a0 : (True ∧ (True ∧ (True ∧ (True ∧ (True ∧ (True ∧ (True ∧ (True ∧ ((lnL (fun _ => True) a0.2.2.2.2.2.2.2.2.1.1 ∧ True) ∧ ((lnL (fun _ => True) a0.2.2.2.2.2.2.2.2.2.1.1 ∧ True) ∧ (True ∧ ((lnL (fun _ => True) a0.2.2.2.2.2.2.2.2.2.2.2.1.1 ∧ True) ∧ True))))))))))))) (g : G.laws_toHead a0 = true) : laws_toHead k  a0 = k (N.laws_toHead a0) := by
  unfold G.laws_toHead at g
  have g' : wH a0 ≤ 1048576 := by simpa using g
  unfold wH at g'
  have g1 : decide (wK a0.2.2.2.2.2.2.2.2.1 ≤ 1048576) = true := by simp; omega
  have g2 : decide (wK a0.2.2.2.2.2.2.2.2.2.1 ≤ 1048576) = true := by simp; omega
  have g3 : decide (wK a0.2.2.2.2.2.2.2.2.2.2.2.1 ≤ 1048576) = true := by simp; omega
  simp only [laws_toHead, G.laws_toKeys, g1, g2, g3, cond_true]
def OP_laws_toHead (f_laws_toKeys : TKeys → TKeys) (g_laws_toKeys : TKeys → Bool) : Orac := (orcX 30 [.val (.pair (.slice 3 (.int .i64)) (.int .i64))] (fun d => g_laws_toKeys d.1) (fun d => [⟨(.pair (.slice 3 (.int .i64)) (.int .i64)), f_laws_toKeys d.1⟩]) nilO)
def O_laws_toHead : Orac := OP_laws_toHead N.laws_toKeys G.laws_toKeys
def laws_toHead_P {ρ : Type} (f_laws_toKeys : TKeys → TKeys) (g_laws_toKeys : TKeys → Bool) (k : THead → Option ρ) (a0 : THead) : Option ρ := (cond (g_laws_toKeys a0.2.2.2.2.2.2.2.2.1) (cond (g_laws_toKeys a0.2.2.2.2.2.2.2.2.2.1) (cond (g_laws_toKeys a0.2.2.2.2.2.2.2.2.2.2.2.1) (k (a0.1, (a0.2.1, (a0.2.2.1, (a0.2.2.2.1, (a0.2.2.2.2.1, (a0.2.2.2.2.2.1, (a0.2.2.2.2.2.2.1, (a0.2.2.2.2.2.2.2.1, ((f_laws_toKeys a0.2.2.2.2.2.2.2.2.1), ((f_laws_toKeys a0.2.2.2.2.2.2.2.2.2.1), (a0.2.2.2.2.2.2.2.2.2.2.1, ((f_laws_toKeys a0.2.2.2.2.2.2.2.2.2.2.2.1), a0.2.2.2.2.2.2.2.2.2.2.2.2))))))))))))) none) none) none)
theorem ok_laws_toHead : OracOk Try.prog sigs O_laws_toHead := (orcX_ok rfl (fun d g => said_laws_toKeys d.1 g) nilO_ok)
def A_laws_toHead : Ann := fun b => ⟨[], []⟩
theorem aP_laws_toHead (f_laws_toKeys : TKeys → TKeys) (g_laws_toKeys : TKeys → Bool) (n : Nat) (a0 : THead) : absF tab sigs (OP_laws_toHead f_laws_toKeys g_laws_toKeys) A_laws_toHead Try.f11 [((.pair (.int .i64) (.pair (.int .i64) (.pair (.int .i64) (.pair (.int .i64) (.pair (.int .i64) (.pair (.int .i64) (.pair (.int .i64) (.pair (.int .i64) (.pair (.pair (.slice 3 (.int .i64)) (.int .i64)) (.pair (.pair (.slice 3 (.int .i64)) (.int .i64)) (.pair (.int .i64) (.pair (.pair (.slice 3 (.int .i64)) (.int .i64)) .bool)))))))))))), (.pair .no (.pair .no (.pair .no (.pair .no (.pair .no (.pair .no (.pair .no (.pair .no (.pair (.pair (.own 0) .no) (.pair (.pair (.own 1) .no) (.pair .no (.pair (.pair (.own 2) .no) .no)))))))))))))] n [.val (.pair (.int .i64) (.pair (.int .i64) (.pair (.int .i64) (.pair (.int .i64) (.pair (.int .i64) (.pair (.int .i64) (.pair (.int .i64) (.pair (.int .i64) (.pair (.pair (.slice 3 (.int .i64)) (.int .i64)) (.pair (.pair (.slice 3 (.int .i64)) (.int .i64)) (.pair (.int .i64) (.pair (.pair (.slice 3 (.int .i64)) (.int .i64)) .bool)))))))))))) a0] = laws_toHead_P f_laws_toKeys g_laws_toKeys (fun r0 => some [⟨(.pair (.int .i64) (.pair (.int .i64) (.pair (.int .i64) (.pair (.int .i64) (.pair (.int .i64) (.pair (.int .i64) (.pair (.int .i64) (.pair (.int .i64) (.pair (.pair (.slice 3 (.int .i64)) (.int .i64)) (.pair (.pair (.slice 3 (.int .i64)) (.int .i64)) (.pair (.int .i64) (.pair (.pair (.slice 3 (.int .i64)) (.int .i64)) .bool)))))))))))), r0⟩])  a0 := by kernel_rfl
theorem a_laws_toHead (n : Nat) (a0 : THead) : absF tab sigs O_laws_toHead A_laws_toHead Try.f11 [((.pair (.int .i64) (.pair (.int .i64) (.pair (.int .i64) (.pair (.int .i64) (.pair (.int .i64) (.pair (.int .i64) (.pair (.int .i64) (.pair (.int .i64) (.pair (.pair (.slice 3 (.int .i64)) (.int .i64)) (.pair (.pair (.slice 3 (.int .i64)) (.int .i64)) (.pair (.int .i64) (.pair (.pair (.slice 3 (.int .i64)) (.int .i64)) .bool)))))))))))), (.pair .no (.pair .no (.pair .no (.pair .no (.pair .no (.pair .no (.pair .no (.pair .no (.pair (.pair (.own 0) .no) (.pair (.pair (.own 1) .no) (.pair .no (.pair (.pair (.own 2) .no) .no)))))))))))))] n [.val (.pair (.int .i64) (.pair (.int .i64) (.pair (.int .i64) (.pair (.int .i64) (.pair (.int .i64) (.pair (.int .i64) (.pair (.int .i64) (.pair (.int .i64) (.pair (.pair (.slice 3 (.int .i64)) (.int .i64)) (.pair (.pair (.slice 3 (.int .i64)) (.int .i64)) (.pair (.int .i64) (.pair (.pair (.slice 3 (.int .i64)) (.int .i64)) .bool)))))))))))) a0] = laws_toHead (fun r0 => some [⟨(.pair (.int .i64) (.pair (.int .i64) (.pair (.int .i64) (.pair (.int .i64) (.pair (.int .i64) (.pair (.int .i64) (.pair (.int .i64) (.pair (.int .i64) (.pair (.pair (.slice 3 (.int .i64)) (.int .i64)) (.pair (.pair (.slice 3 (.int .i64)) (.int .i64)) (.pair (.int .i64) (.pair (.pair (.slice 3 (.int .i64)) (.int .i64)) .bool)))))))))))), r0⟩])  a0 := aP_laws_toHead N.laws_toKeys G.laws_toKeys n a0
theorem said_laws_toHead (a0 : THead) (g : G.laws_toHead a0 = true) : Said Try.prog sigs_11 11 [.val (.pair (.int .i64) (.pair (.int .i64) (.pair (.int .i64) (.pair (.int .i64) (.pair (.int .i64) (.pair (.int .i64) (.pair (.int .i64) (.pair (.int .i64) (.pair (.pair (.slice 3 (.int .i64)) (.int .i64)) (.pair (.pair (.slice 3 (.int .i64)) (.int .i64)) (.pair (.int .i64) (.pair (.pair (.slice 3 (.int .i64)) (.int .i64)) .bool)))))))))))) a0] [⟨(.pair (.int .i64) (.pair (.int .i64) (.pair (.int .i64) (.pair (.int .i64) (.pair (.int .i64) (.pair (.int .i64) (.pair (.int .i64) (.pair (.int .i64) (.pair (.pair (.slice 3 (.int .i64)) (.int .i64)) (.pair (.pair (.slice 3 (.int .i64)) (.int .i64)) (.pair (.int .i64) (.pair (.pair (.slice 3 (.int .i64)) (.int .i64)) .bool)))))))))))), N.laws_toHead a0⟩] := said_len (T := tab) (A := A_laws_toHead) tabOk ok_laws_toHead tabOk.follows Try.func11 (by kernel_rfl) (by kernel_rfl) (fun hl => ⟨0, (a_laws_toHead 0 a0).trans (laws_toHead_ok (ρ := Ret) (fun r0 => some [⟨(.pair (.int .i64) (.pair (.int .i64) (.pair (.int .i64) (.pair (.int .i64) (.pair (.int .i64) (.pair (.int .i64) (.pair (.int .i64) (.pair (.int .i64) (.pair (.pair (.slice 3 (.int .i64)) (.int .i64)) (.pair (.pair (.slice 3 (.int .i64)) (.int .i64)) (.pair (.int .i64) (.pair (.pair (.slice 3 (.int .i64)) (.int .i64)) .bool)))))))))))), r0⟩]) a0 hl.1 g)⟩)
/-! spec.l1In -/
abbrev N.spec_l1In (n lo hi : Int) : Bool := inR n lo hi
def spec_l1In {ρ : Type} (k : Bool → Option ρ) (a0 : Int) (a1 : Int) (a2 : Int) : Option ρ := (cond (decide (a0 ≥ a1)) (k (decide (a0 ≤ a2))) (k false))
theorem spec_l1In_ok {ρ : Type} (k : Bool → Option ρ) (a0 : Int) (a1 : Int) (a2 : Int) : spec_l1In k  a0 a1 a2 = k (N.spec_l1In a0 a1 a2) := by
  simp only [spec_l1In, inR, ge_iff_le]
  cases decide (a1 ≤ a0) <;> rfl
def O_spec_l1In : Orac := nilO
theorem ok_spec_l1In : OracOk Try.prog sigs O_spec_l1In := nilO_ok
def A_spec_l1In : Ann := fun b => ⟨[], []⟩
theorem a_spec_l1In (n : Nat) (a0 : Int) (a1 : Int) (a2 : Int) : absF tab sigs O_spec_l1In A_spec_l1In Try.f29 [(.bool, .no)] n [.val (.int .i64) a0, .val (.int .i64) a1, .val (.int .i64) a2] = spec_l1In (fun r0 => some [⟨.bool, r0⟩])  a0 a1 a2 := by kernel_rfl
theorem said_spec_l1In (a0 : Int) (a1 : Int) (a2 : Int) : Said Try.prog sigs_29 29 [.val (.int .i64) a0, .val (.int .i64) a1, .val (.int .i64) a2] [⟨.bool, N.spec_l1In a0 a1 a2⟩] := said_len (T := tab) (A := A_spec_l1In) tabOk ok_spec_l1In tabOk.follows Try.func29 (by kernel_rfl) (by kernel_rfl) (fun hl => ⟨0, (a_spec_l1In 0 a0 a1 a2).trans (spec_l1In_ok (ρ := Ret) (fun r0 => some [⟨.bool, r0⟩]) a0 a1 a2)⟩)
/-! spec.IsFresh -/
abbrev N.spec_IsFresh (h : THead) (now : Int) : Bool := isFresh h now
def spec_IsFresh {ρ : Type} (k : Bool → Option ρ) (a0 : THead) (a1 : Int) : Option ρ := (k (N.spec_l1In a1 a0.2.2.2.1 a0.2.2.2.2.1))
theorem spec_IsFresh_ok {ρ : Type} (k : Bool → Option ρ) (a0 : THead) (a1 : Int) (l_a0 : (True ∧ (True ∧ (True ∧ (True ∧ (True ∧ (True ∧ (True ∧ (True ∧ ((lnL (fun _ => True) a0.2.2.2.2.2.2.2.2.1.1 ∧ True) ∧ ((lnL (fun _ => True) a0.2.2.2.2.2.2.2.2.2.1.1 ∧ True) ∧ (True ∧ ((lnL (fun _ => True) a0.2.2.2.2.2.2.2.2.2.2.2.1.1 ∧ True) ∧ True))))))))))))) : spec_IsFresh k  a0 a1 = k (N.spec_IsFresh a0 a1) := by
  rfl
def OP_spec_IsFresh (f_spec_l1In : Int → Int → Int → Bool) : Orac := (orcX 29 [.val (.int .i64), .val (.int .i64), .val (.int .i64)] (fun d => true) (fun d => [⟨.bool, f_spec_l1In d.1 d.2.1 d.2.2.1⟩]) nilO)
def O_spec_IsFresh : Orac := OP_spec_IsFresh N.spec_l1In
def spec_IsFresh_P {ρ : Type} (f_spec_l1In : Int → Int → Int → Bool) (k : Bool → Option ρ) (a0 : THead) (a1 : Int) : Option ρ := (k (f_spec_l1In a1 a0.2.2.2.1 a0.2.2.2.2.1))
theorem ok_spec_IsFresh : OracOk Try.prog sigs O_spec_IsFresh := (orcX_ok rfl (fun d g => said_spec_l1In d.1 d.2.1 d.2.2.1) nilO_ok)
def A_spec_IsFresh : Ann := fun b => ⟨[], []⟩
theorem aP_spec_IsFresh (f_spec_l1In : Int → Int → Int → Bool) (n : Nat) (a0 : THead) (a1 : Int) : absF tab sigs (OP_spec_IsFresh f_spec_l1In) A_spec_IsFresh Try.f10 [(.bool, .no)] n [.val (.pair (.int .i64) (.pair (.int .i64) (.pair (.int .i64) (.pair (.int .i64) (.pair (.int .i64) (.pair (.int .i64) (.pair (.int .i64) (.pair (.int .i64) (.pair (.pair (.slice 3 (.int .i64)) (.int .i64)) (.pair (.pair (.slice 3 (.int .i64)) (.int .i64)) (.pair (.int .i64) (.pair (.pair (.slice 3 (.int .i64)) (.int .i64)) .bool)))))))))))) a0, .val (.int .i64) a1] = spec_IsFresh_P f_spec_l1In (fun r0 => some [⟨.bool, r0⟩])  a0 a1 := by kernel_rfl
theorem a_spec_IsFresh (n : Nat) (a0 : THead) (a1 : Int) : absF tab sigs O_spec_IsFresh A_spec_IsFresh Try.f10 [(.bool, .no)] n [.val (.pair (.int .i64) (.pair (.int .i64) (.pair (.int .i64) (.pair (.int .i64) (.pair (.int .i64) (.pair (.int .i64) (.pair (.int .i64) (.pair (.int .i64) (.pair (.pair (.slice 3 (.int .i64)) (.int .i64)) (.pair (.pair (.slice 3 (.int .i64)) (.int .i64)) (.pair (.int .i64) (.pair (.pair (.slice 3 (.int .i64)) (.int .i64)) .bool)))))))))))) a0, .val (.int .i64) a1] = spec_IsFresh (fun r0 => some [⟨.bool, r0⟩])  a0 a1 := aP_spec_IsFresh N.spec_l1In n a0 a1
theorem said_spec_IsFresh (a0 : THead) (a1 : Int) : Said Try.prog sigs_10 10 [.val (.pair (.int .i64) (.pair (.int .i64) (.pair (.int .i64) (.pair (.int .i64) (.pair (.int .i64) (.pair (.int .i64) (.pair (.int .i64) (.pair (.int .i64) (.pair (.pair (.slice 3 (.int .i64)) (.int .i64)) (.pair (.pair (.slice 3 (.int .i64)) (.int .i64)) (.pair (.int .i64) (.pair (.pair (.slice 3 (.int .i64)) (.int .i64)) .bool)))))))))))) a0, .val (.int .i64) a1] [⟨.bool, N.spec_IsFresh a0 a1⟩] := said_len (T := tab) (A := A_spec_IsFresh) tabOk ok_spec_IsFresh tabOk.follows Try.func10 (by kernel_rfl) (by kernel_rfl) (fun hl => ⟨0, (a_spec_IsFresh 0 a0 a1).trans (spec_IsFresh_ok (ρ := Ret) (fun r0 => some [⟨.bool, r0⟩]) a0 a1 hl.1)⟩)
/-! impl.InRange -/
abbrev N.impl_InRange (n lo hi : Int) : Bool := inR n lo hi
def impl_InRange {ρ : Type} (k : Bool → Option ρ) (a0 : Int) (a1 : Int) (a2 : Int) : Option ρ := (cond (decide (a1 ≤ a0)) (k (decide (a0 ≤ a2))) (k false))
theorem impl_InRange_ok {ρ : Type} (k : Bool → Option ρ) (a0 : Int) (a1 : Int) (a2 : Int) : impl_InRange k  a0 a1 a2 = k (N.impl_InRange a0 a1 a2) := by
  simp only [impl_InRange, inR]
  cases decide (a1 ≤ a0) <;> rfl
def O_impl_InRange : Orac := nilO
theorem ok_impl_InRange : OracOk Try.prog sigs O_impl_InRange := nilO_ok
def A_impl_InRange : Ann := fun b => ⟨[], []⟩
theorem a_impl_InRange (n : Nat) (a0 : Int) (a1 : Int) (a2 : Int) : absF tab sigs O_impl_InRange A_impl_InRange Try.f31 [(.bool, .no)] n [.val (.int .i64) a0, .val (.int .i64) a1, .val (.int .i64) a2] = impl_InRange (fun r0 => some [⟨.bool, r0⟩])  a0 a1 a2 := by kernel_rfl
theorem said_impl_InRange (a0 : Int) (a1 : Int) (a2 : Int) : Said Try.prog sigs_31 31 [.val (.int .i64) a0, .val (.int .i64) a1, .val (.int .i64) a2] [⟨.bool, N.impl_InRange a0 a1 a2⟩] := said_len (T := tab) (A := A_impl_InRange) tabOk ok_impl_InRange tabOk.follows Try.func31 (by kernel_rfl) (by kernel_rfl) (fun hl => ⟨0, (a_impl_InRange 0 a0 a1 a2).trans (impl_InRange_ok (ρ := Ret) (fun r0 => some [⟨.bool, r0⟩]) a0 a1 a2)⟩)
/-! impl.IsFresh -/
abbrev N.impl_IsFresh (h : THead) (now : Int) : Bool := isFresh h now
def impl_IsFresh {ρ : Type} (k : Bool → Option ρ) (a0 : THead) (a1 : Int) : Option ρ := (k (N.impl_InRange a1 a0.2.2.2.1 a0.2.2.2.2.1))
theorem impl_IsFresh_ok {ρ : Type} (k : Bool → Option ρ) (a0 : THead) (a1 : Int) (l_a0 : (True ∧ (True ∧ (True ∧ (True ∧ (True ∧ (True ∧ (True ∧ (True ∧ ((lnL (fun _ => True) a0.2.2.2.2.2.2.2.2.1.1 ∧ True) ∧ ((lnL (fun _ => True) a0.2.2.2.2.2.2.2.2.2.1.1 ∧ True) ∧ (True ∧ ((lnL (fun _ => True) a0.2.2.2.2.2.2.2.2.2.2.2.1.1 ∧ True) ∧ True))))))))))))) : impl_IsFresh k  a0 a1 = k (N.impl_IsFresh a0 a1) := by
  rfl
def OP_impl_IsFresh (f_impl_InRange : Int → Int → Int → Bool) : Orac := (orcX 31 [.val (.int .i64), .val (.int .i64), .val (.int .i64)] (fun d => true) (fun d => [⟨.bool, f_impl_InRange d.1 d.2.1 d.2.2.1⟩]) nilO)
def O_impl_IsFresh : Orac := OP_impl_IsFresh N.impl_InRange
def impl_IsFresh_P {ρ : Type} (f_impl_InRange : Int → Int → Int → Bool) (k : Bool → Option ρ) (a0 : THead) (a1 : Int) : Option ρ := (k (f_impl_InRange a1 a0.2.2.2.1 a0.2.2.2.2.1))
theorem ok_impl_IsFresh : OracOk Try.prog sigs O_impl_IsFresh := (orcX_ok rfl (fun d g => said_impl_InRange d.1 d.2.1 d.2.2.1) nilO_ok)
def A_impl_IsFresh : Ann := fun b => ⟨[], []⟩
theorem aP_impl_IsFresh (f_impl_InRange : Int → Int → Int → Bool) (n : Nat) (a0 : THead) (a1 : Int) : absF tab sigs (OP_impl_IsFresh f_impl_InRange) A_impl_IsFresh Try.f12 [(.bool, .no)] n [.val (.pair (.int .i64) (.pair (.int .i64) (.pair (.int .i64) (.pair (.int .i64) (.pair (.int .i64) (.pair (.int .i64) (.pair (.int .i64) (.pair (.int .i64) (.pair (.pair (.slice 3 (.int .i64)) (.int .i64)) (.pair (.pair (.slice 3 (.int .i64)) (.int .i64)) (.pair (.int .i64) (.pair (.pair (.slice 3 (.int .i64)) (.int .i64)) .bool)))))))))))) a0, .val (.int .i64) a1] = impl_IsFresh_P f_impl_InRange (fun r0 => some [⟨.bool, r0⟩])  a0 a1 := by kernel_rfl
theorem a_impl_IsFresh (n : Nat) (a0 : THead) (a1 : Int) : absF tab sigs O_impl_IsFresh A_impl_IsFresh Try.f12 [(.bool, .no)] n [.val (.pair (.int .i64) (.pair (.int .i64) (.pair (.int .i64) (.pair (.int .i64) (.pair (.int .i64) (.pair (.int .i64) (.pair (.int .i64) (.pair (.int .i64) (.pair (.pair (.slice 3 (.int .i64)) (.int .i64)) (.pair (.pair (.slice 3 (.int .i64)) (.int .i64)) (.pair (.int .i64) (.pair (.pair (.slice 3 (.int .i64)) (.int .i64)) .bool)))))))))))) a0, .val (.int .i64) a1] = impl_IsFresh (fun r0 => some [⟨.bool, r0⟩])  a0 a1 := aP_impl_IsFresh N.impl_InRange n a0 a1
theorem said_impl_IsFresh (a0 : THead) (a1 : Int) : Said Try.prog sigs_12 12 [.val (.pair (.int .i64) (.pair (.int .i64) (.pair (.int .i64) (.pair (.int .i64) (.pair (.int .i64) (.pair (.int .i64) (.pair (.int .i64) (.pair (.int .i64) (.pair (.pair (.slice 3 (.int .i64)) (.int .i64)) (.pair (.pair (.slice 3 (.int .i64)) (.int .i64)) (.pair (.int .i64) (.pair (.pair (.slice 3 (.int .i64)) (.int .i64)) .bool)))))))))))) a0, .val (.int .i64) a1] [⟨.bool, N.impl_IsFresh a0 a1⟩] := said_len (T := tab) (A := A_impl_IsFresh) tabOk ok_impl_IsFresh tabOk.follows Try.func12 (by kernel_rfl) (by kernel_rfl) (fun hl => ⟨0, (a_impl_IsFresh 0 a0 a1).trans (impl_IsFresh_ok (ρ := Ret) (fun r0 => some [⟨.bool, r0⟩]) a0 a1 hl.1)⟩)
/-! laws.eqIntS -/
abbrev N.laws_eqIntS (a b : List Int) : Bool := eqInts a b
def laws_eqIntS_L0 {ρ : Type} (k : Bool → Option ρ) (L0 : (List Int) → (List Int) → Int → Option ρ) (v0_0 : (List Int)) (v0_1 : (List Int)) (v0_2 : Int) : Option ρ := (cond (decide (v0_2 < (List.length v0_0 : Int))) (cond (inRange v0_2 (List.length v0_0)) (cond (inRange v0_2 (List.length v0_1)) (cond ((List.getD v0_0 (Int.toNat v0_2) (0 : Int)) != (List.getD v0_1 (Int.toNat v0_2) (0 : Int))) (k false) (L0 v0_0 v0_1 (IntKind.wrap .i64 (v0_2 + (1 : Int))))) none) none) (k true))
def laws_eqIntS {ρ : Type} (k : Bool → Option ρ) (L0 : (List Int) → (List Int) → Int → Option ρ) (a0 : (List Int)) (a1 : (List Int)) : Option ρ := (cond ((List.length a0 : Int) != (List.length a1 : Int)) (k false) (L0 a0 a1 (0 : Int)))
theorem laws_eqIntS_ok {ρ : Type} (k : Bool → Option ρ) (a0 : (List Int)) (a1 : (List Int)) (l_a0 : lnL (fun _ => True) a0) (l_a1 : lnL (fun _ => True) a1) : ∃ n0, ∀ n, n0 ≤ n → ∀ (L0 : Nat → (List Int) → (List Int) → Int → Option ρ) (h0 : ∀ ( m : Nat) (v0_0 : (List Int)) (v0_1 : (List Int)) (v0_2 : Int), L0 (m + 1) v0_0 v0_1 v0_2 = laws_eqIntS_L0 k (L0 m) v0_0 v0_1 v0_2), laws_eqIntS k (L0 n) a0 a1 = k (N.laws_eqIntS a0 a1) := by
  exact ⟨a0.length + 1, fun n hn L0 h0 => eq_all (p := fun x y => x == y) (d := 0) l_a0.1 (L := fun m i => L0 m a0 a1 i) (fun m i => h0 m a0 a1 i) hn⟩
def O_laws_eqIntS : Orac := nilO
theorem ok_laws_eqIntS : OracOk Try.prog sigs O_laws_eqIntS := nilO_ok
def A_laws_eqIntS : Ann := fun b => cond (Nat.beq b 0) ⟨[(0, false), (1, false), (5, false)], []⟩ (⟨[], []⟩)
def S_laws_eqIntS_0 (v0_0 : (List Int)) (v0_1 : (List Int)) (v0_2 : Int) : St := [(kT 0, some (.tv (.v (.slice 3 (.int .i64)) v0_0 .no))), (kT 1, some (.tv (.v (.slice 3 (.int .i64)) v0_1 .no))), (kT 5, some (.tv (.v (.int .i64) v0_2 .no)))]
noncomputable def L_laws_eqIntS_0 (n m : Nat) : St → Option Ret := loopOf tab sigs O_laws_eqIntS A_laws_eqIntS Try.f16 [(.bool, .no)] n (fun _ => 0) 0 m
theorem b_laws_eqIntS_0 (n m : Nat) (v0_0 : (List Int)) (v0_1 : (List Int)) (v0_2 : Int) : L_laws_eqIntS_0 n (m + 1) (S_laws_eqIntS_0 v0_0 v0_1 v0_2) = laws_eqIntS_L0 (fun r0 => some [⟨.bool, r0⟩]) (fun v0_0 v0_1 v0_2 => L_laws_eqIntS_0 n m (S_laws_eqIntS_0 v0_0 v0_1 v0_2)) v0_0 v0_1 v0_2 := by kernel_rfl
theorem a_laws_eqIntS (n : Nat) (a0 : (List Int)) (a1 : (List Int)) : absF tab sigs O_laws_eqIntS A_laws_eqIntS Try.f16 [(.bool, .no)] n [.val (.slice 3 (.int .i64)) a0, .val (.slice 3 (.int .i64)) a1] = laws_eqIntS (fun r0 => some [⟨.bool, r0⟩]) (fun v0_0 v0_1 v0_2 => L_laws_eqIntS_0 n n (S_laws_eqIntS_0 v0_0 v0_1 v0_2)) a0 a1 := by kernel_rfl
theorem said_laws_eqIntS (a0 : (List Int)) (a1 : (List Int)) : Said Try.prog sigs_16 16 [.val (.slice 3 (.int .i64)) a0, .val (.slice 3 (.int .i64)) a1] [⟨.bool, N.laws_eqIntS a0 a1⟩] := said_len (T := tab) (A := A_laws_eqIntS) tabOk ok_laws_eqIntS tabOk.follows Try.func16 (by kernel_rfl) (by kernel_rfl) (fun hl => let ⟨n, hn⟩ := laws_eqIntS_ok (ρ := Ret) (fun r0 => some [⟨.bool, r0⟩]) a0 a1 hl.1 hl.2.1; ⟨n, (a_laws_eqIntS n a0 a1).trans (hn n (Nat.le_refl n) (fun  m v0_0 v0_1 v0_2 => L_laws_eqIntS_0 n  m (S_laws_eqIntS_0 v0_0 v0_1 v0_2)) (fun  m v0_0 v0_1 v0_2 => b_laws_eqIntS_0 n  m v0_0 v0_1 v0_2))⟩)
/-! laws.eqKeys -/
abbrev N.laws_eqKeys (a b : TKeys) : Bool := eqKeys a b
def laws_eqKeys {ρ : Type} (k : Bool → Option ρ) (a0 : TKeys) (a1 : TKeys) : Option ρ := (cond (!(N.laws_eqIntS a0.1 a1.1)) (k false) (cond (a0.2 != a1.2) (k false) (k true)))
theorem laws_eqKeys_ok {ρ : Type} (k : Bool → Option ρ) (a0 : TKeys) (a1 : TKeys) (l_a0 : (lnL (fun _ => True) a0.1 ∧ True)) (l_a1 : (lnL (fun _ => True) a1.1 ∧ True)) : laws_eqKeys k  a0 a1 = k (N.laws_eqKeys a0 a1) := by
  simp only [laws_eqKeys, N.laws_eqKeys, N.laws_eqIntS, eqKeys, bne]
  cases eqInts a0.1 a1.1 <;> cases a0.2 == a1.2 <;> rfl
def OP_laws_eqKeys (f_laws_eqIntS : (List Int) → (List Int) → Bool) : Orac := (orcX 16 [.val (.slice 3 (.int .i64)), .val (.slice 3 (.int .i64))] (fun d => true) (fun d => [⟨.bool, f_laws_eqIntS d.1 d.2.1⟩]) nilO)
def O_laws_eqKeys : Orac := OP_laws_eqKeys N.laws_eqIntS
def laws_eqKeys_P {ρ : Type} (f_laws_eqIntS : (List Int) → (List Int) → Bool) (k : Bool → Option ρ) (a0 : TKeys) (a1 : TKeys) : Option ρ := (cond (!(f_laws_eqIntS a0.1 a1.1)) (k false) (cond (a0.2 != a1.2) (k false) (k true)))
theorem ok_laws_eqKeys : OracOk Try.prog sigs O_laws_eqKeys := (orcX_ok rfl (fun d g => said_laws_eqIntS d.1 d.2.1) nilO_ok)
def A_laws_eqKeys : Ann := fun b => ⟨[], []⟩
theorem aP_laws_eqKeys (f_laws_eqIntS : (List Int) → (List Int) → Bool) (n : Nat) (a0 : TKeys) (a1 : TKeys) : absF tab sigs (OP_laws_eqKeys f_laws_eqIntS) A_laws_eqKeys Try.f32 [(.bool, .no)] n [.val (.pair (.slice 3 (.int .i64)) (.int .i64)) a0, .val (.pair (.slice 3 (.int .i64)) (.int .i64)) a1] = laws_eqKeys_P f_laws_eqIntS (fun r0 => some [⟨.bool, r0⟩])  a0 a1 := by kernel_rfl
theorem a_laws_eqKeys (n : Nat) (a0 : TKeys) (a1 : TKeys) : absF tab sigs O_laws_eqKeys A_laws_eqKeys Try.f32 [(.bool, .no)] n [.val (.pair (.slice 3 (.int .i64)) (.int .i64)) a0, .val (.pair (.slice 3 (.int .i64)) (.int .i64)) a1] = laws_eqKeys (fun r0 => some [⟨.bool, r0⟩])  a0 a1 := aP_laws_eqKeys N.laws_eqIntS n a0 a1
theorem said_laws_eqKeys (a0 : TKeys) (a1 : TKeys) : Said Try.prog sigs_32 32 [.val (.pair (.slice 3 (.int .i64)) (.int .i64)) a0, .val (.pair (.slice 3 (.int .i64)) (.int .i64)) a1] [⟨.bool, N.laws_eqKeys a0 a1⟩] := said_len (T := tab) (A := A_laws_eqKeys) tabOk ok_laws_eqKeys tabOk.follows Try.func32 (by kernel_rfl) (by kernel_rfl) (fun hl => ⟨0, (a_laws_eqKeys 0 a0 a1).trans (laws_eqKeys_ok (ρ := Ret) (fun r0 => some [⟨.bool, r0⟩]) a0 a1 hl.1 hl.2.1)⟩)
/-! laws.eqHead -/
abbrev N.laws_eqHead (a b : THead) : Bool := eqHead a b
def laws_eqHead {ρ : Type} (k : Bool → Option ρ) (a0 : THead) (a1 : THead) : Option ρ := (cond (a0.1 != a1.1) (k false) (cond (a0.2.1 != a1.2.1) (k false) (cond (a0.2.2.1 != a1.2.2.1) (k false) (cond (a0.2.2.2.1 != a1.2.2.2.1) (k false) (cond (a0.2.2.2.2.1 != a1.2.2.2.2.1) (k false) (cond (a0.2.2.2.2.2.1 != a1.2.2.2.2.2.1) (k false) (cond (a0.2.2.2.2.2.2.1 != a1.2.2.2.2.2.2.1) (k false) (cond (a0.2.2.2.2.2.2.2.1 != a1.2.2.2.2.2.2.2.1) (k false) (cond (!(N.laws_eqKeys a0.2.2.2.2.2.2.2.2.1 a1.2.2.2.2.2.2.2.2.1)) (k false) (cond (!(N.laws_eqKeys a0.2.2.2.2.2.2.2.2.2.1 a1.2.2.2.2.2.2.2.2.2.1)) (k false) (cond (a0.2.2.2.2.2.2.2.2.2.2.1 != a1.2.2.2.2.2.2.2.2.2.2.1) (k false) (cond (!(N.laws_eqKeys a0.2.2.2.2.2.2.2.2.2.2.2.1 a1.2.2.2.2.2.2.2.2.2.2.2.1)) (k false) (cond (a0.2.2.2.2.2.2.2.2.2.2.2.2 != a1.2.2.2.2.2.2.2.2.2.2.2.2) (k false) (k true))))))))))))))
theorem laws_eqHead_ok {ρ : Type} (k : Bool → Option ρ) (a0 : THead) (a1 : THead) (l_a0 : (True ∧ (True ∧ (True ∧ (True ∧ (True ∧ (True ∧ (True ∧ (True ∧ ((lnL (fun _ => True) a0.2.2.2.2.2.2.2.2.1.1 ∧ True) ∧ ((lnL (fun _ => True) a0.2.2.2.2.2.2.2.2.2.1.1 ∧ True) ∧ (True ∧ ((lnL (fun _ => True) a0.2.2.2.2.2.2.2.2.2.2.2.1.1 ∧ True) ∧ True))))))))))))) (l_a1 : (True ∧ (True ∧ (True ∧ (True ∧ (True ∧ (True ∧ (True ∧ (True ∧ ((lnL (fun _ => True) a1.2.2.2.2.2.2.2.2.1.1 ∧ True) ∧ ((lnL (fun _ => True) a1.2.2.2.2.2.2.2.2.2.1.1 ∧ True) ∧ (True ∧ ((lnL (fun _ => True) a1.2.2.2.2.2.2.2.2.2.2.2.1.1 ∧ True) ∧ True))))))))))))) : laws_eqHead k  a0 a1 = k (N.laws_eqHead a0 a1) := by
  simp only [laws_eqHead, N.laws_eqHead, N.laws_eqKeys, eqHead, bne]
  cases a0.1 == a1.1
  · rfl
  cases a0.2.1 == a1.2.1
  · rfl
  cases a0.2.2.1 == a1.2.2.1
  · rfl
  cases a0.2.2.2.1 == a1.2.2.2.1
  · rfl
  cases a0.2.2.2.2.1 == a1.2.2.2.2.1
  · rfl
  cases a0.2.2.2.2.2.1 == a1.2.2.2.2.2.1
  · rfl
  cases a0.2.2.2.2.2.2.1 == a1.2.2.2.2.2.2.1
  · rfl
  cases a0.2.2.2.2.2.2.2.1 == a1.2.2.2.2.2.2.2.1
  · rfl
  cases eqKeys a0.2.2.2.2.2.2.2.2.1 a1.2.2.2.2.2.2.2.2.1
  · rfl
  cases eqKeys a0.2.2.2.2.2.2.2.2.2.1 a1.2.2.2.2.2.2.2.2.2.1
  · rfl
  cases a0.2.2.2.2.2.2.2.2.2.2.1 == a1.2.2.2.2.2.2.2.2.2.2.1
  · rfl
  cases eqKeys a0.2.2.2.2.2.2.2.2.2.2.2.1 a1.2.2.2.2.2.2.2.2.2.2.2.1
  · rfl
  cases a0.2.2.2.2.2.2.2.2.2.2.2.2 == a1.2.2.2.2.2.2.2.2.2.2.2.2 <;> rfl
def OP_laws_eqHead (f_laws_eqKeys : TKeys → TKeys → Bool) : Orac := (orcX 32 [.val (.pair (.slice 3 (.int .i64)) (.int .i64)), .val (.pair (.slice 3 (.int .i64)) (.int .i64))] (fun d => true) (fun d => [⟨.bool, f_laws_eqKeys d.1 d.2.1⟩]) nilO)
def O_laws_eqHead : Orac := OP_laws_eqHead N.laws_eqKeys
def laws_eqHead_P {ρ : Type} (f_laws_eqKeys : TKeys → TKeys → Bool) (k : Bool → Option ρ) (a0 : THead) (a1 : THead) : Option ρ := (cond (a0.1 != a1.1) (k false) (cond (a0.2.1 != a1.2.1) (k false) (cond (a0.2.2.1 != a1.2.2.1) (k false) (cond (a0.2.2.2.1 != a1.2.2.2.1) (k false) (cond (a0.2.2.2.2.1 != a1.2.2.2.2.1) (k false) (cond (a0.2.2.2.2.2.1 != a1.2.2.2.2.2.1) (k false) (cond (a0.2.2.2.2.2.2.1 != a1.2.2.2.2.2.2.1) (k false) (cond (a0.2.2.2.2.2.2.2.1 != a1.2.2.2.2.2.2.2.1) (k false) (cond (!(f_laws_eqKeys a0.2.2.2.2.2.2.2.2.1 a1.2.2.2.2.2.2.2.2.1)) (k false) (cond (!(f_laws_eqKeys a0.2.2.2.2.2.2.2.2.2.1 a1.2.2.2.2.2.2.2.2.2.1)) (k false) (cond (a0.2.2.2.2.2.2.2.2.2.2.1 != a1.2.2.2.2.2.2.2.2.2.2.1) (k false) (cond (!(f_laws_eqKeys a0.2.2.2.2.2.2.2.2.2.2.2.1 a1.2.2.2.2.2.2.2.2.2.2.2.1)) (k false) (cond (a0.2.2.2.2.2.2.2.2.2.2.2.2 != a1.2.2.2.2.2.2.2.2.2.2.2.2) (k false) (k true))))))))))))))
theorem ok_laws_eqHead : OracOk Try.prog sigs O_laws_eqHead := (orcX_ok rfl (fun d g => said_laws_eqKeys d.1 d.2.1) nilO_ok)
def A_laws_eqHead : Ann := fun b => ⟨[], []⟩
theorem aP_laws_eqHead (f_laws_eqKeys : TKeys → TKeys → Bool) (n : Nat) (a0 : THead) (a1 : THead) : absF tab sigs (OP_laws_eqHead f_laws_eqKeys) A_laws_eqHead Try.f13 [(.bool, .no)] n [.val (.pair (.int .i64) (.pair (.int .i64) (.pair (.int .i64) (.pair (.int .i64) (.pair (.int .i64) (.pair (.int .i64) (.pair (.int .i64) (.pair (.int .i64) (.pair (.pair (.slice 3 (.int .i64)) (.int .i64)) (.pair (.pair (.slice 3 (.int .i64)) (.int .i64)) (.pair (.int .i64) (.pair (.pair (.slice 3 (.int .i64)) (.int .i64)) .bool)))))))))))) a0, .val (.pair (.int .i64) (.pair (.int .i64) (.pair (.int .i64) (.pair (.int .i64) (.pair (.int .i64) (.pair (.int .i64) (.pair (.int .i64) (.pair (.int .i64) (.pair (.pair (.slice 3 (.int .i64)) (.int .i64)) (.pair (.pair (.slice 3 (.int .i64)) (.int .i64)) (.pair (.int .i64) (.pair (.pair (.slice 3 (.int .i64)) (.int .i64)) .bool)))))))))))) a1] = laws_eqHead_P f_laws_eqKeys (fun r0 => some [⟨.bool, r0⟩])  a0 a1 := by kernel_rfl
theorem a_laws_eqHead (n : Nat) (a0 : THead) (a1 : THead) : absF tab sigs O_laws_eqHead A_laws_eqHead Try.f13 [(.bool, .no)] n [.val (.pair (.int .i64) (.pair (.int .i64) (.pair (.int .i64) (.pair (.int .i64) (.pair (.int .i64) (.pair (.int .i64) (.pair (.int .i64) (.pair (.int .i64) (.pair (.pair (.slice 3 (.int .i64)) (.int .i64)) (.pair (.pair (.slice 3 (.int .i64)) (.int .i64)) (.pair (.int .i64) (.pair (.pair (.slice 3 (.int .i64)) (.int .i64)) .bool)))))))))))) a0, .val (.pair (.int .i64) (.pair (.int .i64) (.pair (.int .i64) (.pair (.int .i64) (.pair (.int .i64) (.pair (.int .i64) (.pair (.int .i64) (.pair (.int .i64) (.pair (.pair (.slice 3 (.int .i64)) (.int .i64)) (.pair (.pair (.slice 3 (.int .i64)) (.int .i64)) (.pair (.int .i64) (.pair (.pair (.slice 3 (.int .i64)) (.int .i64)) .bool)))))))))))) a1] = laws_eqHead (fun r0 => some [⟨.bool, r0⟩])  a0 a1 := aP_laws_eqHead N.laws_eqKeys n a0 a1
theorem said_laws_eqHead (a0 : THead) (a1 : THead) : Said Try.prog sigs_13 13 [.val (.pair (.int .i64) (.pair (.int .i64) (.pair (.int .i64) (.pair (.int .i64) (.pair (.int .i64) (.pair (.int .i64) (.pair (.int .i64) (.pair (.int .i64) (.pair (.pair (.slice 3 (.int .i64)) (.int .i64)) (.pair (.pair (.slice 3 (.int .i64)) (.int .i64)) (.pair (.int .i64) (.pair (.pair (.slice 3 (.int .i64)) (.int .i64)) .bool)))))))))))) a0, .val (.pair (.int .i64) (.pair (.int .i64) (.pair (.int .i64) (.pair (.int .i64) (.pair (.int .i64) (.pair (.int .i64) (.pair (.int .i64) (.pair (.int .i64) (.pair (.pair (.slice 3 (.int .i64)) (.int .i64)) (.pair (.pair (.slice 3 (.int .i64)) (.int .i64)) (.pair (.int .i64) (.pair (.pair (.slice 3 (.int .i64)) (.int .i64)) .bool)))))))))))) a1] [⟨.bool, N.laws_eqHead a0 a1⟩] := said_len (T := tab) (A := A_laws_eqHead) tabOk ok_laws_eqHead tabOk.follows Try.func13 (by kernel_rfl) (by kernel_rfl) (fun hl => ⟨0, (a_laws_eqHead 0 a0 a1).trans (laws_eqHead_ok (ρ := Ret) (fun r0 => some [⟨.bool, r0⟩]) a0 a1 hl.1 hl.2.1)⟩)
/-! spec.IsKeys -/
abbrev N.spec_IsKeys (k : TKeys) : Bool := isKeys k
def spec_IsKeys_L0 {ρ : Type} (k : Bool → Option ρ) (L0 : Int → TKeys → Option ρ) (v0_0 : Int) (v0_1 : TKeys) : Option ρ := (cond (decide (v0_0 < (List.length v0_1.1 : Int))) (cond (inRange v0_0 (List.length v0_1.1)) (cond (!(N.spec_l1In (List.getD v0_1.1 (Int.toNat v0_0) (0 : Int)) (1 : Int) (99 : Int))) (k false) (cond (decide (v0_0 > (0 : Int))) (cond (inRange (IntKind.wrap .i64 (v0_0 - (1 : Int))) (List.length v0_1.1)) (cond (inRange v0_0 (List.length v0_1.1)) (cond (decide ((List.getD v0_1.1 (Int.toNat (IntKind.wrap .i64 (v0_0 - (1 : Int)))) (0 : Int)) ≥ (List.getD v0_1.1 (Int.toNat v0_0) (0 : Int)))) (k false) (L0 (IntKind.wrap .i64 (v0_0 + (1 : Int))) v0_1)) none) none) (L0 (IntKind.wrap .i64 (v0_0 + (1 : Int))) v0_1))) none) (cond (N.spec_l1In (List.length v0_1.1 : Int) (1 : Int) (4 : Int)) (k (N.spec_l1In v0_1.2 (1 : Int) (List.length v0_1.1 : Int))) (k false)))
def spec_IsKeys {ρ : Type} (k : Bool → Option ρ) (L0 : Int → TKeys → Option ρ) (a0 : TKeys) : Option ρ := (L0 (0 : Int) a0)
theorem spec_IsKeys_ok {ρ : Type} (k : Bool → Option ρ) (a0 : TKeys) (l_a0 : (lnL (fun _ => True) a0.1 ∧ True)) : ∃ n0, ∀ n, n0 ≤ n → ∀ (L0 : Nat → Int → TKeys → Option ρ) (h0 : ∀ ( m : Nat) (v0_0 : Int) (v0_1 : TKeys), L0 (m + 1) v0_0 v0_1 = spec_IsKeys_L0 k (L0 m) v0_0 v0_1), spec_IsKeys k (L0 n) a0 = k (N.spec_IsKeys a0) := by
  refine ⟨a0.1.length + 1, fun n hn L0 h0 => ?_⟩
  have hb : a0.1.length ≤ 9223372036854775807 := l_a0.1.1
  have hrun := raw_run0 (σ := Unit) (s := ()) (L := fun m i _ => L0 m i a0) (R := fun i _ c => spec_IsKeys_L0 k (fun i _ => c i ()) i a0) (fun m i s => h0 m i a0) a0.1.length (fun _ _ => True) (fun j _ => cond (keysFrom a0.1 (a0.1.length - j) j) (k (inR a0.1.length 1 4 && inR a0.2 1 a0.1.length)) (k false)) (fun j s c hj _ hc => ?_) (fun s c _ => ?_) hn trivial
  · refine hrun.trans ?_
    show _ = k (isKeys a0)
    rw [Nat.sub_zero, isKeys_eq]
    cases keysFrom a0.1 a0.1.length 0 <;> simp
  · obtain ⟨m, hm⟩ : ∃ m, a0.1.length - j = m + 1 := ⟨a0.1.length - j - 1, by omega⟩
    have hm2 : a0.1.length - (j + 1) = m := by omega
    have hc' := hc () trivial
    rw [hm2] at hc'
    rw [hm]
    unfold keysFrom
    by_cases h0j : j = 0
    · subst h0j
      simp only [spec_IsKeys_L0, lt_nat, inRange_nat, decide_eq_true hj, cond_true, Int.toNat_natCast, N.spec_l1In, wrap_succ (j := 0) (by unfold big; omega), hc', isKey]
      cases inR (a0.1.getD 0 0) 1 99 <;> simp
    · have e1 : decide ((j : Int) > 0) = true := by simp; omega
      have e2 : IntKind.wrap .i64 ((j : Int) - 1) = ((j - 1 : Nat) : Int) := by rw [wrap_id (by omega) (by omega)]; omega
      have e3 : j - 1 < a0.1.length := by omega
      have e4 : decide (a0.1.getD (j - 1) 0 ≥ a0.1.getD j 0) = !decide (a0.1.getD (j - 1) 0 < a0.1.getD j 0) := by rw [← decide_not]; simp
      simp only [spec_IsKeys_L0, lt_nat, inRange_nat, decide_eq_true hj, cond_true, Int.toNat_natCast, N.spec_l1In, e1, e2, e4, decide_eq_true e3, wrap_succ (j := j) (by unfold big; omega), hc', decide_eq_false h0j, isKey]
      cases inR (a0.1.getD j 0) 1 99 <;> cases decide (a0.1.getD (j - 1) 0 < a0.1.getD j 0) <;> simp
  · rw [Nat.sub_self]
    simp only [spec_IsKeys_L0, keysFrom, lt_nat, Nat.lt_irrefl, decide_false, cond_false, cond_true, N.spec_l1In]
    cases inR (a0.1.length : Int) 1 4 <;> rfl
def OP_spec_IsKeys (f_spec_l1In : Int → Int → Int → Bool) : Orac := (orcX 29 [.val (.int .i64), .val (.int .i64), .val (.int .i64)] (fun d => true) (fun d => [⟨.bool, f_spec_l1In d.1 d.2.1 d.2.2.1⟩]) nilO)
def O_spec_IsKeys : Orac := OP_spec_IsKeys N.spec_l1In
def spec_IsKeys_P_L0 {ρ : Type} (f_spec_l1In : Int → Int → Int → Bool) (k : Bool → Option ρ) (L0 : Int → TKeys → Option ρ) (v0_0 : Int) (v0_1 : TKeys) : Option ρ := (cond (decide (v0_0 < (List.length v0_1.1 : Int))) (cond (inRange v0_0 (List.length v0_1.1)) (cond (!(f_spec_l1In (List.getD v0_1.1 (Int.toNat v0_0) (0 : Int)) (1 : Int) (99 : Int))) (k false) (cond (decide (v0_0 > (0 : Int))) (cond (inRange (IntKind.wrap .i64 (v0_0 - (1 : Int))) (List.length v0_1.1)) (cond (inRange v0_0 (List.length v0_1.1)) (cond (decide ((List.getD v0_1.1 (Int.toNat (IntKind.wrap .i64 (v0_0 - (1 : Int)))) (0 : Int)) ≥ (List.getD v0_1.1 (Int.toNat v0_0) (0 : Int)))) (k false) (L0 (IntKind.wrap .i64 (v0_0 + (1 : Int))) v0_1)) none) none) (L0 (IntKind.wrap .i64 (v0_0 + (1 : Int))) v0_1))) none) (cond (f_spec_l1In (List.length v0_1.1 : Int) (1 : Int) (4 : Int)) (k (f_spec_l1In v0_1.2 (1 : Int) (List.length v0_1.1 : Int))) (k false)))
def spec_IsKeys_P {ρ : Type} (f_spec_l1In : Int → Int → Int → Bool) (k : Bool → Option ρ) (L0 : Int → TKeys → Option ρ) (a0 : TKeys) : Option ρ := (L0 (0 : Int) a0)
theorem ok_spec_IsKeys : OracOk Try.prog sigs O_spec_IsKeys := (orcX_ok rfl (fun d g => said_spec_l1In d.1 d.2.1 d.2.2.1) nilO_ok)
def A_spec_IsKeys : Ann := fun b => cond (Nat.beq b 0) ⟨[(1, false), (3, false)], [(1, false)]⟩ (⟨[], []⟩)
def S_spec_IsKeys_0 (v0_0 : Int) (v0_1 : TKeys) : St := [(kT 1, some (.tv (.box 1 []))), (kT 3, some (.tv (.v (.int .i64) v0_0 .no))), (kB 1, some (.box (.pair (.slice 3 (.int .i64)) (.int .i64)) v0_1 .no))]
noncomputable def L_P_spec_IsKeys_0 (f_spec_l1In : Int → Int → Int → Bool) (n m : Nat) : St → Option Ret := loopOf tab sigs (OP_spec_IsKeys f_spec_l1In) A_spec_IsKeys Try.f43 [(.bool, .no)] n (fun _ => 0) 0 m
noncomputable def L_spec_IsKeys_0 (n m : Nat) : St → Option Ret := L_P_spec_IsKeys_0 N.spec_l1In n m
theorem bP_spec_IsKeys_0 (f_spec_l1In : Int → Int → Int → Bool) (n m : Nat) (v0_0 : Int) (v0_1 : TKeys) : L_P_spec_IsKeys_0 f_spec_l1In n (m + 1) (S_spec_IsKeys_0 v0_0 v0_1) = spec_IsKeys_P_L0 f_spec_l1In (fun r0 => some [⟨.bool, r0⟩]) (fun v0_0 v0_1 => L_P_spec_IsKeys_0 f_spec_l1In n m (S_spec_IsKeys_0 v0_0 v0_1)) v0_0 v0_1 := by kernel_rfl
theorem b_spec_IsKeys_0 (n m : Nat) (v0_0 : Int) (v0_1 : TKeys) : L_spec_IsKeys_0 n (m + 1) (S_spec_IsKeys_0 v0_0 v0_1) = spec_IsKeys_L0 (fun r0 => some [⟨.bool, r0⟩]) (fun v0_0 v0_1 => L_spec_IsKeys_0 n m (S_spec_IsKeys_0 v0_0 v0_1)) v0_0 v0_1 := bP_spec_IsKeys_0 N.spec_l1In n m v0_0 v0_1
theorem aP_spec_IsKeys (f_spec_l1In : Int → Int → Int → Bool) (n : Nat) (a0 : TKeys) : absF tab sigs (OP_spec_IsKeys f_spec_l1In) A_spec_IsKeys Try.f43 [(.bool, .no)] n [.val (.pair (.slice 3 (.int .i64)) (.int .i64)) a0] = spec_IsKeys_P f_spec_l1In (fun r0 => some [⟨.bool, r0⟩]) (fun v0_0 v0_1 => L_P_spec_IsKeys_0 f_spec_l1In n n (S_spec_IsKeys_0 v0_0 v0_1)) a0 := by kernel_rfl
theorem a_spec_IsKeys (n : Nat) (a0 : TKeys) : absF tab sigs O_spec_IsKeys A_spec_IsKeys Try.f43 [(.bool, .no)] n [.val (.pair (.slice 3 (.int .i64)) (.int .i64)) a0] = spec_IsKeys (fun r0 => some [⟨.bool, r0⟩]) (fun v0_0 v0_1 => L_spec_IsKeys_0 n n (S_spec_IsKeys_0 v0_0 v0_1)) a0 := aP_spec_IsKeys N.spec_l1In n a0
theorem said_spec_IsKeys (a0 : TKeys) : Said Try.prog sigs_43 43 [.val (.pair (.slice 3 (.int .i64)) (.int .i64)) a0] [⟨.bool, N.spec_IsKeys a0⟩] := said_len (T := tab) (A := A_spec_IsKeys) tabOk ok_spec_IsKeys tabOk.follows Try.func43 (by kernel_rfl) (by kernel_rfl) (fun hl => let ⟨n, hn⟩ := spec_IsKeys_ok (ρ := Ret) (fun r0 => some [⟨.bool, r0⟩]) a0 hl.1; ⟨n, (a_spec_IsKeys n a0).trans (hn n (Nat.le_refl n) (fun  m v0_0 v0_1 => L_spec_IsKeys_0 n  m (S_spec_IsKeys_0 v0_0 v0_1)) (fun  m v0_0 v0_1 => b_spec_IsKeys_0 n  m v0_0 v0_1))⟩)
/-! spec.NoKeys -/
abbrev N.spec_NoKeys (k : TKeys) : Bool := noKeys k
def spec_NoKeys {ρ : Type} (k : Bool → Option ρ) (a0 : TKeys) : Option ρ := (cond (a0.2 == (0 : Int)) (k ((List.length a0.1 : Int) == (0 : Int))) (k false))
theorem spec_NoKeys_ok {ρ : Type} (k : Bool → Option ρ) (a0 : TKeys) (l_a0 : (lnL (fun _ => True) a0.1 ∧ True)) : spec_NoKeys k  a0 = k (N.spec_NoKeys a0) := by
  simp only [spec_NoKeys, N.spec_NoKeys, noKeys]
  cases a0.2 == 0 <;> rfl
def O_spec_NoKeys : Orac := nilO
theorem ok_spec_NoKeys : OracOk Try.prog sigs O_spec_NoKeys := nilO_ok
def A_spec_NoKeys : Ann := fun b => ⟨[], []⟩
theorem a_spec_NoKeys (n : Nat) (a0 : TKeys) : absF tab sigs O_spec_NoKeys A_spec_NoKeys Try.f44 [(.bool, .no)] n [.val (.pair (.slice 3 (.int .i64)) (.int .i64)) a0] = spec_NoKeys (fun r0 => some [⟨.bool, r0⟩])  a0 := by kernel_rfl
theorem said_spec_NoKeys (a0 : TKeys) : Said Try.prog sigs_44 44 [.val (.pair (.slice 3 (.int .i64)) (.int .i64)) a0] [⟨.bool, N.spec_NoKeys a0⟩] := said_len (T := tab) (A := A_spec_NoKeys) tabOk ok_spec_NoKeys tabOk.follows Try.func44 (by kernel_rfl) (by kernel_rfl) (fun hl => ⟨0, (a_spec_NoKeys 0 a0).trans (spec_NoKeys_ok (ρ := Ret) (fun r0 => some [⟨.bool, r0⟩]) a0 hl.1)⟩)
/-! spec.IsHead -/
abbrev N.spec_IsHead (h : THead) : Bool := isHead h
def spec_IsHead {ρ : Type} (k : Bool → Option ρ) (a0 : THead) : Option ρ := (cond (!(N.spec_l1In a0.1 (0 : Int) (2147483646 : Int))) (k false) (cond (!(N.spec_l1In a0.2.2.2.2.2.2.1 (0 : Int) (2147483646 : Int))) (k false) (cond (!(N.spec_l1In a0.2.2.2.2.2.2.2.1 (0 : Int) (2147483646 : Int))) (k false) (cond (!(N.spec_l1In a0.2.1 (0 : Int) (200 : Int))) (k false) (cond (!(N.spec_l1In a0.2.2.1 (1 : Int) (3 : Int))) (k false) (cond (!(N.spec_l1In a0.2.2.2.1 (0 : Int) (100000 : Int))) (k false) (cond (!(N.spec_l1In a0.2.2.2.2.1 a0.2.2.2.1 (100000 : Int))) (k false) (cond (decide ((IntKind.wrap .i64 (a0.2.2.2.2.1 - a0.2.2.2.1)) > (200 : Int))) (k false) (cond (!(N.spec_l1In a0.2.2.2.2.2.1 (0 : Int) (12 : Int))) (k false) (cond (!(N.spec_IsKeys a0.2.2.2.2.2.2.2.2.1)) (k false) (cond (N.spec_NoKeys a0.2.2.2.2.2.2.2.2.2.1) (cond (a0.2.2.2.2.2.2.2.2.2.2.1 != (0 : Int)) (k false) (cond (N.spec_IsKeys a0.2.2.2.2.2.2.2.2.2.2.2.1) (k true) (cond (N.spec_NoKeys a0.2.2.2.2.2.2.2.2.2.2.2.1) (k (!a0.2.2.2.2.2.2.2.2.2.2.2.2)) (k false)))) (cond (!(N.spec_IsKeys a0.2.2.2.2.2.2.2.2.2.1)) (k false) (cond (!(N.spec_l1In a0.2.2.2.2.2.2.2.2.2.2.1 (1 : Int) (500 : Int))) (k false) (cond (N.spec_IsKeys a0.2.2.2.2.2.2.2.2.2.2.2.1) (k true) (cond (N.spec_NoKeys a0.2.2.2.2.2.2.2.2.2.2.2.1) (k (!a0.2.2.2.2.2.2.2.2.2.2.2.2)) (k false))))))))))))))))
theorem spec_IsHead_ok {ρ : Type} (k : Bool → Option ρ) (a0 : THead) (l_a0 : (True ∧ (True ∧ (True ∧ (True ∧ (True ∧ (True ∧ (True ∧ (True ∧ ((lnL (fun _ => True) a0.2.2.2.2.2.2.2.2.1.1 ∧ True) ∧ ((lnL (fun _ => True) a0.2.2.2.2.2.2.2.2.2.1.1 ∧ True) ∧ (True ∧ ((lnL (fun _ => True) a0.2.2.2.2.2.2.2.2.2.2.2.1.1 ∧ True) ∧ True))))))))))))) : spec_IsHead k  a0 = k (N.spec_IsHead a0) := by
  have e1 : ∀ x : Bool, (cond (decide (IntKind.wrap .i64 (a0.2.2.2.2.1 - a0.2.2.2.1) > 200)) (k false) (k x)) = k (decide (IntKind.wrap .i64 (a0.2.2.2.2.1 - a0.2.2.2.1) ≤ 200) && x) := by
    intro x
    by_cases h : IntKind.wrap .i64 (a0.2.2.2.2.1 - a0.2.2.2.1) ≤ 200
    · rw [decide_eq_true h, decide_eq_false (by omega)]; rfl
    · rw [decide_eq_false h, decide_eq_true (by omega)]; rfl
  have e2 : decide (IntKind.wrap .i64 (a0.2.2.2.2.1 - a0.2.2.2.1) > 200) = !decide (IntKind.wrap .i64 (a0.2.2.2.2.1 - a0.2.2.2.1) ≤ 200) := by rw [← decide_not]; simp only [decide_eq_decide]; omega
  have e3 : (inR a0.2.2.2.1 0 100000 && (inR a0.2.2.2.2.1 a0.2.2.2.1 100000 && decide (IntKind.wrap .i64 (a0.2.2.2.2.1 - a0.2.2.2.1) ≤ 200))) = isSpan a0 := by
    unfold inR isSpan
    by_cases h1 : 0 ≤ a0.2.2.2.1 <;> by_cases h2 : a0.2.2.2.1 ≤ a0.2.2.2.2.1 <;> by_cases h3 : a0.2.2.2.2.1 ≤ 100000 <;> simp [h1, h2, h3]
    omega
  simp only [spec_IsHead, N.spec_l1In, N.spec_IsKeys, N.spec_NoKeys, N.spec_IsHead, isHead, ← e3, e2, isDigest, isMaybe, isWait, bne]
  cases inR a0.1 0 2147483646
  · rfl
  cases inR a0.2.2.2.2.2.2.1 0 2147483646
  · rfl
  cases inR a0.2.2.2.2.2.2.2.1 0 2147483646
  · rfl
  cases inR a0.2.1 0 200
  · rfl
  cases inR a0.2.2.1 1 3
  · rfl
  cases inR a0.2.2.2.1 0 100000
  · rfl
  cases inR a0.2.2.2.2.1 a0.2.2.2.1 100000
  · rfl
  cases decide (IntKind.wrap .i64 (a0.2.2.2.2.1 - a0.2.2.2.1) ≤ 200)
  · rfl
  cases inR a0.2.2.2.2.2.1 0 12
  · rfl
  cases isKeys a0.2.2.2.2.2.2.2.2.1
  · rfl
  cases noKeys a0.2.2.2.2.2.2.2.2.2.1 <;> cases isKeys a0.2.2.2.2.2.2.2.2.2.1 <;> cases a0.2.2.2.2.2.2.2.2.2.2.1 == 0 <;> cases inR a0.2.2.2.2.2.2.2.2.2.2.1 1 500 <;> cases h1 : isKeys a0.2.2.2.2.2.2.2.2.2.2.2.1 <;> cases h2 : noKeys a0.2.2.2.2.2.2.2.2.2.2.2.1 <;> cases a0.2.2.2.2.2.2.2.2.2.2.2.2 <;> first | rfl | exact (keys_not_both h1 h2).elim
def OP_spec_IsHead (f_spec_l1In : Int → Int → Int → Bool) (f_spec_IsKeys : TKeys → Bool) (f_spec_NoKeys : TKeys → Bool) : Orac := (orcX 44 [.val (.pair (.slice 3 (.int .i64)) (.int .i64))] (fun d => true) (fun d => [⟨.bool, f_spec_NoKeys d.1⟩]) (orcX 43 [.val (.pair (.slice 3 (.int .i64)) (.int .i64))] (fun d => true) (fun d => [⟨.bool, f_spec_IsKeys d.1⟩]) (orcX 29 [.val (.int .i64), .val (.int .i64), .val (.int .i64)] (fun d => true) (fun d => [⟨.bool, f_spec_l1In d.1 d.2.1 d.2.2.1⟩]) nilO)))
def O_spec_IsHead : Orac := OP_spec_IsHead N.spec_l1In N.spec_IsKeys N.spec_NoKeys
def spec_IsHead_P {ρ : Type} (f_spec_l1In : Int → Int → Int → Bool) (f_spec_IsKeys : TKeys → Bool) (f_spec_NoKeys : TKeys → Bool) (k : Bool → Option ρ) (a0 : THead) : Option ρ := (cond (!(f_spec_l1In a0.1 (0 : Int) (2147483646 : Int))) (k false) (cond (!(f_spec_l1In a0.2.2.2.2.2.2.1 (0 : Int) (2147483646 : Int))) (k false) (cond (!(f_spec_l1In a0.2.2.2.2.2.2.2.1 (0 : Int) (2147483646 : Int))) (k false) (cond (!(f_spec_l1In a0.2.1 (0 : Int) (200 : Int))) (k false) (cond (!(f_spec_l1In a0.2.2.1 (1 : Int) (3 : Int))) (k false) (cond (!(f_spec_l1In a0.2.2.2.1 (0 : Int) (100000 : Int))) (k false) (cond (!(f_spec_l1In a0.2.2.2.2.1 a0.2.2.2.1 (100000 : Int))) (k false) (cond (decide ((IntKind.wrap .i64 (a0.2.2.2.2.1 - a0.2.2.2.1)) > (200 : Int))) (k false) (cond (!(f_spec_l1In a0.2.2.2.2.2.1 (0 : Int) (12 : Int))) (k false) (cond (!(f_spec_IsKeys a0.2.2.2.2.2.2.2.2.1)) (k false) (cond (f_spec_NoKeys a0.2.2.2.2.2.2.2.2.2.1) (cond (a0.2.2.2.2.2.2.2.2.2.2.1 != (0 : Int)) (k false) (cond (f_spec_IsKeys a0.2.2.2.2.2.2.2.2.2.2.2.1) (k true) (cond (f_spec_NoKeys a0.2.2.2.2.2.2.2.2.2.2.2.1) (k (!a0.2.2.2.2.2.2.2.2.2.2.2.2)) (k false)))) (cond (!(f_spec_IsKeys a0.2.2.2.2.2.2.2.2.2.1)) (k false) (cond (!(f_spec_l1In a0.2.2.2.2.2.2.2.2.2.2.1 (1 : Int) (500 : Int))) (k false) (cond (f_spec_IsKeys a0.2.2.2.2.2.2.2.2.2.2.2.1) (k true) (cond (f_spec_NoKeys a0.2.2.2.2.2.2.2.2.2.2.2.1) (k (!a0.2.2.2.2.2.2.2.2.2.2.2.2)) (k false))))))))))))))))
theorem ok_spec_IsHead : OracOk Try.prog sigs O_spec_IsHead := (orcX_ok rfl (fun d g => said_spec_NoKeys d.1) (orcX_ok rfl (fun d g => said_spec_IsKeys d.1) (orcX_ok rfl (fun d g => said_spec_l1In d.1 d.2.1 d.2.2.1) nilO_ok)))
def A_spec_IsHead : Ann := fun b => ⟨[], []⟩
theorem aP_spec_IsHead (f_spec_l1In : Int → Int → Int → Bool) (f_spec_IsKeys : TKeys → Bool) (f_spec_NoKeys : TKeys → Bool) (n : Nat) (a0 : THead) : absF tab sigs (OP_spec_IsHead f_spec_l1In f_spec_IsKeys f_spec_NoKeys) A_spec_IsHead Try.f24 [(.bool, .no)] n [.val (.pair (.int .i64) (.pair (.int .i64) (.pair (.int .i64) (.pair (.int .i64) (.pair (.int .i64) (.pair (.int .i64) (.pair (.int .i64) (.pair (.int .i64) (.pair (.pair (.slice 3 (.int .i64)) (.int .i64)) (.pair (.pair (.slice 3 (.int .i64)) (.int .i64)) (.pair (.int .i64) (.pair (.pair (.slice 3 (.int .i64)) (.int .i64)) .bool)))))))))))) a0] = spec_IsHead_P f_spec_l1In f_spec_IsKeys f_spec_NoKeys (fun r0 => some [⟨.bool, r0⟩])  a0 := by kernel_rfl
theorem a_spec_IsHead (n : Nat) (a0 : THead) : absF tab sigs O_spec_IsHead A_spec_IsHead Try.f24 [(.bool, .no)] n [.val (.pair (.int .i64) (.pair (.int .i64) (.pair (.int .i64) (.pair (.int .i64) (.pair (.int .i64) (.pair (.int .i64) (.pair (.int .i64) (.pair (.int .i64) (.pair (.pair (.slice 3 (.int .i64)) (.int .i64)) (.pair (.pair (.slice 3 (.int .i64)) (.int .i64)) (.pair (.int .i64) (.pair (.pair (.slice 3 (.int .i64)) (.int .i64)) .bool)))))))))))) a0] = spec_IsHead (fun r0 => some [⟨.bool, r0⟩])  a0 := aP_spec_IsHead N.spec_l1In N.spec_IsKeys N.spec_NoKeys n a0
theorem said_spec_IsHead (a0 : THead) : Said Try.prog sigs_24 24 [.val (.pair (.int .i64) (.pair (.int .i64) (.pair (.int .i64) (.pair (.int .i64) (.pair (.int .i64) (.pair (.int .i64) (.pair (.int .i64) (.pair (.int .i64) (.pair (.pair (.slice 3 (.int .i64)) (.int .i64)) (.pair (.pair (.slice 3 (.int .i64)) (.int .i64)) (.pair (.int .i64) (.pair (.pair (.slice 3 (.int .i64)) (.int .i64)) .bool)))))))))))) a0] [⟨.bool, N.spec_IsHead a0⟩] := said_len (T := tab) (A := A_spec_IsHead) tabOk ok_spec_IsHead tabOk.follows Try.func24 (by kernel_rfl) (by kernel_rfl) (fun hl => ⟨0, (a_spec_IsHead 0 a0).trans (spec_IsHead_ok (ρ := Ret) (fun r0 => some [⟨.bool, r0⟩]) a0 hl.1)⟩)
/-! impl.isDigest -/
abbrev N.impl_isDigest (n : Int) : Bool := isDigest n
def impl_isDigest {ρ : Type} (k : Bool → Option ρ) (a0 : Int) : Option ρ := (k (N.impl_InRange a0 (0 : Int) (2147483646 : Int)))
theorem impl_isDigest_ok {ρ : Type} (k : Bool → Option ρ) (a0 : Int) : impl_isDigest k  a0 = k (N.impl_isDigest a0) := by
  rfl
def OP_impl_isDigest (f_impl_InRange : Int → Int → Int → Bool) : Orac := (orcX 31 [.val (.int .i64), .val (.int .i64), .val (.int .i64)] (fun d => true) (fun d => [⟨.bool, f_impl_InRange d.1 d.2.1 d.2.2.1⟩]) nilO)
def O_impl_isDigest : Orac := OP_impl_isDigest N.impl_InRange
def impl_isDigest_P {ρ : Type} (f_impl_InRange : Int → Int → Int → Bool) (k : Bool → Option ρ) (a0 : Int) : Option ρ := (k (f_impl_InRange a0 (0 : Int) (2147483646 : Int)))
theorem ok_impl_isDigest : OracOk Try.prog sigs O_impl_isDigest := (orcX_ok rfl (fun d g => said_impl_InRange d.1 d.2.1 d.2.2.1) nilO_ok)
def A_impl_isDigest : Ann := fun b => ⟨[], []⟩
theorem aP_impl_isDigest (f_impl_InRange : Int → Int → Int → Bool) (n : Nat) (a0 : Int) : absF tab sigs (OP_impl_isDigest f_impl_InRange) A_impl_isDigest Try.f45 [(.bool, .no)] n [.val (.int .i64) a0] = impl_isDigest_P f_impl_InRange (fun r0 => some [⟨.bool, r0⟩])  a0 := by kernel_rfl
theorem a_impl_isDigest (n : Nat) (a0 : Int) : absF tab sigs O_impl_isDigest A_impl_isDigest Try.f45 [(.bool, .no)] n [.val (.int .i64) a0] = impl_isDigest (fun r0 => some [⟨.bool, r0⟩])  a0 := aP_impl_isDigest N.impl_InRange n a0
theorem said_impl_isDigest (a0 : Int) : Said Try.prog sigs_45 45 [.val (.int .i64) a0] [⟨.bool, N.impl_isDigest a0⟩] := said_len (T := tab) (A := A_impl_isDigest) tabOk ok_impl_isDigest tabOk.follows Try.func45 (by kernel_rfl) (by kernel_rfl) (fun hl => ⟨0, (a_impl_isDigest 0 a0).trans (impl_isDigest_ok (ρ := Ret) (fun r0 => some [⟨.bool, r0⟩]) a0)⟩)
/-! impl.isSpan -/
abbrev N.impl_isSpan (h : THead) : Bool := isSpan h
def impl_isSpan {ρ : Type} (k : Bool → Option ρ) (a0 : THead) : Option ρ := (cond (decide (a0.2.2.2.1 ≥ (0 : Int))) (cond (decide (a0.2.2.2.1 ≤ a0.2.2.2.2.1)) (cond (decide (a0.2.2.2.2.1 ≤ (100000 : Int))) (k (decide ((IntKind.wrap .i64 (a0.2.2.2.2.1 - a0.2.2.2.1)) ≤ (200 : Int)))) (k false)) (k false)) (k false))
theorem impl_isSpan_ok {ρ : Type} (k : Bool → Option ρ) (a0 : THead) (l_a0 : (True ∧ (True ∧ (True ∧ (True ∧ (True ∧ (True ∧ (True ∧ (True ∧ ((lnL (fun _ => True) a0.2.2.2.2.2.2.2.2.1.1 ∧ True) ∧ ((lnL (fun _ => True) a0.2.2.2.2.2.2.2.2.2.1.1 ∧ True) ∧ (True ∧ ((lnL (fun _ => True) a0.2.2.2.2.2.2.2.2.2.2.2.1.1 ∧ True) ∧ True))))))))))))) : impl_isSpan k  a0 = k (N.impl_isSpan a0) := by
  simp only [impl_isSpan, isSpan, ge_iff_le]
  cases decide (0 ≤ a0.2.2.2.1)
  · rfl
  cases decide (a0.2.2.2.1 ≤ a0.2.2.2.2.1)
  · rfl
  cases decide (a0.2.2.2.2.1 ≤ 100000) <;> rfl
def O_impl_isSpan : Orac := nilO
theorem ok_impl_isSpan : OracOk Try.prog sigs O_impl_isSpan := nilO_ok
def A_impl_isSpan : Ann := fun b => ⟨[], []⟩
theorem a_impl_isSpan (n : Nat) (a0 : THead) : absF tab sigs O_impl_isSpan A_impl_isSpan Try.f46 [(.bool, .no)] n [.val (.pair (.int .i64) (.pair (.int .i64) (.pair (.int .i64) (.pair (.int .i64) (.pair (.int .i64) (.pair (.int .i64) (.pair (.int .i64) (.pair (.int .i64) (.pair (.pair (.slice 3 (.int .i64)) (.int .i64)) (.pair (.pair (.slice 3 (.int .i64)) (.int .i64)) (.pair (.int .i64) (.pair (.pair (.slice 3 (.int .i64)) (.int .i64)) .bool)))))))))))) a0] = impl_isSpan (fun r0 => some [⟨.bool, r0⟩])  a0 := by kernel_rfl
theorem said_impl_isSpan (a0 : THead) : Said Try.prog sigs_46 46 [.val (.pair (.int .i64) (.pair (.int .i64) (.pair (.int .i64) (.pair (.int .i64) (.pair (.int .i64) (.pair (.int .i64) (.pair (.int .i64) (.pair (.int .i64) (.pair (.pair (.slice 3 (.int .i64)) (.int .i64)) (.pair (.pair (.slice 3 (.int .i64)) (.int .i64)) (.pair (.int .i64) (.pair (.pair (.slice 3 (.int .i64)) (.int .i64)) .bool)))))))))))) a0] [⟨.bool, N.impl_isSpan a0⟩] := said_len (T := tab) (A := A_impl_isSpan) tabOk ok_impl_isSpan tabOk.follows Try.func46 (by kernel_rfl) (by kernel_rfl) (fun hl => ⟨0, (a_impl_isSpan 0 a0).trans (impl_isSpan_ok (ρ := Ret) (fun r0 => some [⟨.bool, r0⟩]) a0 hl.1)⟩)
/-! impl.ascending -/
abbrev N.impl_ascending (l : List Int) : Bool := asc l
def impl_ascending_L0 {ρ : Type} (k : Bool → Option ρ) (L0 : (List Int) → Int → Int → Option ρ) (v0_0 : (List Int)) (v0_1 : Int) (v0_2 : Int) : Option ρ := (cond (decide (v0_2 < v0_1)) (cond (decide (v0_2 > (0 : Int))) (cond (inRange v0_2 (List.length v0_0)) (cond (inRange (IntKind.wrap .i64 (v0_2 - (1 : Int))) (List.length v0_0)) (cond (decide ((List.getD v0_0 (Int.toNat v0_2) (0 : Int)) ≤ (List.getD v0_0 (Int.toNat (IntKind.wrap .i64 (v0_2 - (1 : Int)))) (0 : Int)))) (k false) (L0 v0_0 v0_1 (IntKind.wrap .i64 (v0_2 + (1 : Int))))) none) none) (L0 v0_0 v0_1 (IntKind.wrap .i64 (v0_2 + (1 : Int))))) (k true))
def impl_ascending {ρ : Type} (k : Bool → Option ρ) (L0 : (List Int) → Int → Int → Option ρ) (a0 : (List Int)) : Option ρ := (L0 a0 (List.length a0 : Int) (0 : Int))
theorem impl_ascending_ok {ρ : Type} (k : Bool → Option ρ) (a0 : (List Int)) (l_a0 : lnL (fun _ => True) a0) : ∃ n0, ∀ n, n0 ≤ n → ∀ (L0 : Nat → (List Int) → Int → Int → Option ρ) (h0 : ∀ ( m : Nat) (v0_0 : (List Int)) (v0_1 : Int) (v0_2 : Int), L0 (m + 1) v0_0 v0_1 v0_2 = impl_ascending_L0 k (L0 m) v0_0 v0_1 v0_2), impl_ascending k (L0 n) a0 = k (N.impl_ascending a0) := by
  refine ⟨a0.length + 1, fun n hn L0 h0 => ?_⟩
  have hb : a0.length ≤ 9223372036854775807 := l_a0.1
  have hrun := raw_run0 (σ := Unit) (s := ()) (L := fun m i _ => L0 m a0 (a0.length : Int) i) (R := fun i _ c => impl_ascending_L0 k (fun _ _ i => c i ()) a0 (a0.length : Int) i) (fun m i s => h0 m a0 (a0.length : Int) i) a0.length (fun _ _ => True) (fun j _ => k (ascFrom a0 (a0.length - j) j)) (fun j s c hj _ hc => ?_) (fun s c _ => ?_) hn trivial
  · refine hrun.trans ?_
    rw [Nat.sub_zero]
    rfl
  · obtain ⟨m, hm⟩ : ∃ m, a0.length - j = m + 1 := ⟨a0.length - j - 1, by omega⟩
    have hm2 : a0.length - (j + 1) = m := by omega
    have hc' := hc () trivial
    rw [hm2] at hc'
    rw [hm]
    unfold ascFrom
    by_cases h0j : j = 0
    · subst h0j
      simp only [impl_ascending_L0, lt_nat, inRange_nat, decide_eq_true hj, cond_true, wrap_succ (j := 0) (by unfold big; omega), hc']
      simp
    · have e1 : decide ((j : Int) > 0) = true := by simp; omega
      have e2 : IntKind.wrap .i64 ((j : Int) - 1) = ((j - 1 : Nat) : Int) := by rw [wrap_id (by omega) (by omega)]; omega
      have e3 : j - 1 < a0.length := by omega
      have e4 : decide (a0.getD j 0 ≤ a0.getD (j - 1) 0) = !decide (a0.getD (j - 1) 0 < a0.getD j 0) := by rw [← decide_not]; simp
      simp only [impl_ascending_L0, lt_nat, inRange_nat, decide_eq_true hj, cond_true, Int.toNat_natCast, e1, e2, e4, decide_eq_true e3, wrap_succ (j := j) (by unfold big; omega), hc', decide_eq_false h0j]
      cases decide (a0.getD (j - 1) 0 < a0.getD j 0) <;> simp
  · rw [Nat.sub_self]
    simp [impl_ascending_L0, ascFrom]
def O_impl_ascending : Orac := nilO
theorem ok_impl_ascending : OracOk Try.prog sigs O_impl_ascending := nilO_ok
def A_impl_ascending : Ann := fun b => cond (Nat.beq b 0) ⟨[(0, false), (5, false), (6, false)], []⟩ (⟨[], []⟩)
def S_impl_ascending_0 (v0_0 : (List Int)) (v0_1 : Int) (v0_2 : Int) : St := [(kT 0, some (.tv (.v (.slice 3 (.int .i64)) v0_0 .no))), (kT 5, some (.tv (.v (.int .i64) v0_1 .no))), (kT 6, some (.tv (.v (.int .i64) v0_2 .no)))]
noncomputable def L_impl_ascending_0 (n m : Nat) : St → Option Ret := loopOf tab sigs O_impl_ascending A_impl_ascending Try.f56 [(.bool, .no)] n (fun _ => 0) 0 m
theorem b_impl_ascending_0 (n m : Nat) (v0_0 : (List Int)) (v0_1 : Int) (v0_2 : Int) : L_impl_ascending_0 n (m + 1) (S_impl_ascending_0 v0_0 v0_1 v0_2) = impl_ascending_L0 (fun r0 => some [⟨.bool, r0⟩]) (fun v0_0 v0_1 v0_2 => L_impl_ascending_0 n m (S_impl_ascending_0 v0_0 v0_1 v0_2)) v0_0 v0_1 v0_2 := by kernel_rfl
theorem a_impl_ascending (n : Nat) (a0 : (List Int)) : absF tab sigs O_impl_ascending A_impl_ascending Try.f56 [(.bool, .no)] n [.val (.slice 3 (.int .i64)) a0] = impl_ascending (fun r0 => some [⟨.bool, r0⟩]) (fun v0_0 v0_1 v0_2 => L_impl_ascending_0 n n (S_impl_ascending_0 v0_0 v0_1 v0_2)) a0 := by kernel_rfl
theorem said_impl_ascending (a0 : (List Int)) : Said Try.prog sigs_56 56 [.val (.slice 3 (.int .i64)) a0] [⟨.bool, N.impl_ascending a0⟩] := said_len (T := tab) (A := A_impl_ascending) tabOk ok_impl_ascending tabOk.follows Try.func56 (by kernel_rfl) (by kernel_rfl) (fun hl => let ⟨n, hn⟩ := impl_ascending_ok (ρ := Ret) (fun r0 => some [⟨.bool, r0⟩]) a0 hl.1; ⟨n, (a_impl_ascending n a0).trans (hn n (Nat.le_refl n) (fun  m v0_0 v0_1 v0_2 => L_impl_ascending_0 n  m (S_impl_ascending_0 v0_0 v0_1 v0_2)) (fun  m v0_0 v0_1 v0_2 => b_impl_ascending_0 n  m v0_0 v0_1 v0_2))⟩)
/-! impl.isKey -/
abbrev N.impl_isKey (n : Int) : Bool := isKey n
def impl_isKey {ρ : Type} (k : Bool → Option ρ) (a0 : Int) : Option ρ := (k (N.impl_InRange a0 (1 : Int) (99 : Int)))
theorem impl_isKey_ok {ρ : Type} (k : Bool → Option ρ) (a0 : Int) : impl_isKey k  a0 = k (N.impl_isKey a0) := by
  rfl
def OP_impl_isKey (f_impl_InRange : Int → Int → Int → Bool) : Orac := (orcX 31 [.val (.int .i64), .val (.int .i64), .val (.int .i64)] (fun d => true) (fun d => [⟨.bool, f_impl_InRange d.1 d.2.1 d.2.2.1⟩]) nilO)
def O_impl_isKey : Orac := OP_impl_isKey N.impl_InRange
def impl_isKey_P {ρ : Type} (f_impl_InRange : Int → Int → Int → Bool) (k : Bool → Option ρ) (a0 : Int) : Option ρ := (k (f_impl_InRange a0 (1 : Int) (99 : Int)))
theorem ok_impl_isKey : OracOk Try.prog sigs O_impl_isKey := (orcX_ok rfl (fun d g => said_impl_InRange d.1 d.2.1 d.2.2.1) nilO_ok)
def A_impl_isKey : Ann := fun b => ⟨[], []⟩
theorem aP_impl_isKey (f_impl_InRange : Int → Int → Int → Bool) (n : Nat) (a0 : Int) : absF tab sigs (OP_impl_isKey f_impl_InRange) A_impl_isKey Try.f57 [(.bool, .no)] n [.val (.int .i64) a0] = impl_isKey_P f_impl_InRange (fun r0 => some [⟨.bool, r0⟩])  a0 := by kernel_rfl
theorem a_impl_isKey (n : Nat) (a0 : Int) : absF tab sigs O_impl_isKey A_impl_isKey Try.f57 [(.bool, .no)] n [.val (.int .i64) a0] = impl_isKey (fun r0 => some [⟨.bool, r0⟩])  a0 := aP_impl_isKey N.impl_InRange n a0
theorem said_impl_isKey (a0 : Int) : Said Try.prog sigs_57 57 [.val (.int .i64) a0] [⟨.bool, N.impl_isKey a0⟩] := said_len (T := tab) (A := A_impl_isKey) tabOk ok_impl_isKey tabOk.follows Try.func57 (by kernel_rfl) (by kernel_rfl) (fun hl => ⟨0, (a_impl_isKey 0 a0).trans (impl_isKey_ok (ρ := Ret) (fun r0 => some [⟨.bool, r0⟩]) a0)⟩)
/-! impl.IsKeys -/
abbrev N.impl_IsKeys (k : TKeys) : Bool := isKeys k
def impl_IsKeys {ρ : Type} (k : Bool → Option ρ) (a0 : TKeys) : Option ρ := (cond (N.impl_InRange (List.length a0.1 : Int) (1 : Int) (4 : Int)) (cond (N.impl_ascending a0.1) (cond (inRange (0 : Int) (List.length a0.1)) (cond (N.impl_isKey (List.getD a0.1 0 (0 : Int))) (cond (inRange (IntKind.wrap .i64 ((List.length a0.1 : Int) - (1 : Int))) (List.length a0.1)) (cond (N.impl_isKey (List.getD a0.1 (Int.toNat (IntKind.wrap .i64 ((List.length a0.1 : Int) - (1 : Int)))) (0 : Int))) (k (N.impl_InRange a0.2 (1 : Int) (List.length a0.1 : Int))) (k false)) none) (k false)) none) (k false)) (k false))
theorem impl_IsKeys_ok {ρ : Type} (k : Bool → Option ρ) (a0 : TKeys) (l_a0 : (lnL (fun _ => True) a0.1 ∧ True)) : impl_IsKeys k  a0 = k (N.impl_IsKeys a0) := by
  have hb : a0.1.length ≤ 9223372036854775807 := l_a0.1.1
  simp only [impl_IsKeys, N.impl_InRange, N.impl_ascending, N.impl_isKey, N.impl_IsKeys, isKeys]
  cases hr : inR (a0.1.length : Int) 1 4 with
  | false => rfl
  | true =>
    have hr2 : 1 ≤ (a0.1.length : Int) ∧ (a0.1.length : Int) ≤ 4 := by simpa [inR] using hr
    have e0 : inRange 0 a0.1.length = true := by
      unfold inRange
      rw [decide_eq_true (p := (0 : Int) < (a0.1.length : Int)) (by omega)]
      rfl
    have e1 : IntKind.wrap .i64 ((a0.1.length : Int) - 1) = ((a0.1.length - 1 : Nat) : Int) := by rw [wrap_id (by omega) (by omega)]; omega
    have e2 : inRange ((a0.1.length - 1 : Nat) : Int) a0.1.length = true := by rw [inRange_nat]; simp; omega
    simp only [e0, e1, e2, cond_true, Int.toNat_natCast]
    cases asc a0.1 <;> cases isKey (a0.1.getD 0 0) <;> cases isKey (a0.1.getD (a0.1.length - 1) 0) <;> rfl
def OP_impl_IsKeys (f_impl_InRange : Int → Int → Int → Bool) (f_impl_ascending : (List Int) → Bool) (f_impl_isKey : Int → Bool) : Orac := (orcX 57 [.val (.int .i64)] (fun d => true) (fun d => [⟨.bool, f_impl_isKey d.1⟩]) (orcX 56 [.val (.slice 3 (.int .i64))] (fun d => true) (fun d => [⟨.bool, f_impl_ascending d.1⟩]) (orcX 31 [.val (.int .i64), .val (.int .i64), .val (.int .i64)] (fun d => true) (fun d => [⟨.bool, f_impl_InRange d.1 d.2.1 d.2.2.1⟩]) nilO)))
def O_impl_IsKeys : Orac := OP_impl_IsKeys N.impl_InRange N.impl_ascending N.impl_isKey
def impl_IsKeys_P {ρ : Type} (f_impl_InRange : Int → Int → Int → Bool) (f_impl_ascending : (List Int) → Bool) (f_impl_isKey : Int → Bool) (k : Bool → Option ρ) (a0 : TKeys) : Option ρ := (cond (f_impl_InRange (List.length a0.1 : Int) (1 : Int) (4 : Int)) (cond (f_impl_ascending a0.1) (cond (inRange (0 : Int) (List.length a0.1)) (cond (f_impl_isKey (List.getD a0.1 0 (0 : Int))) (cond (inRange (IntKind.wrap .i64 ((List.length a0.1 : Int) - (1 : Int))) (List.length a0.1)) (cond (f_impl_isKey (List.getD a0.1 (Int.toNat (IntKind.wrap .i64 ((List.length a0.1 : Int) - (1 : Int)))) (0 : Int))) (k (f_impl_InRange a0.2 (1 : Int) (List.length a0.1 : Int))) (k false)) none) (k false)) none) (k false)) (k false))
theorem ok_impl_IsKeys : OracOk Try.prog sigs O_impl_IsKeys := (orcX_ok rfl (fun d g => said_impl_isKey d.1) (orcX_ok rfl (fun d g => said_impl_ascending d.1) (orcX_ok rfl (fun d g => said_impl_InRange d.1 d.2.1 d.2.2.1) nilO_ok)))
def A_impl_IsKeys : Ann := fun b => ⟨[], []⟩
theorem aP_impl_IsKeys (f_impl_InRange : Int → Int → Int → Bool) (f_impl_ascending : (List Int) → Bool) (f_impl_isKey : Int → Bool) (n : Nat) (a0 : TKeys) : absF tab sigs (OP_impl_IsKeys f_impl_InRange f_impl_ascending f_impl_isKey) A_impl_IsKeys Try.f47 [(.bool, .no)] n [.val (.pair (.slice 3 (.int .i64)) (.int .i64)) a0] = impl_IsKeys_P f_impl_InRange f_impl_ascending f_impl_isKey (fun r0 => some [⟨.bool, r0⟩])  a0 := by kernel_rfl
theorem a_impl_IsKeys (n : Nat) (a0 : TKeys) : absF tab sigs O_impl_IsKeys A_impl_IsKeys Try.f47 [(.bool, .no)] n [.val (.pair (.slice 3 (.int .i64)) (.int .i64)) a0] = impl_IsKeys (fun r0 => some [⟨.bool, r0⟩])  a0 := aP_impl_IsKeys N.impl_InRange N.impl_ascending N.impl_isKey n a0
theorem said_impl_IsKeys (a0 : TKeys) : Said Try.prog sigs_47 47 [.val (.pair (.slice 3 (.int .i64)) (.int .i64)) a0] [⟨.bool, N.impl_IsKeys a0⟩] := said_len (T := tab) (A := A_impl_IsKeys) tabOk ok_impl_IsKeys tabOk.follows Try.func47 (by kernel_rfl) (by kernel_rfl) (fun hl => ⟨0, (a_impl_IsKeys 0 a0).trans (impl_IsKeys_ok (ρ := Ret) (fun r0 => some [⟨.bool, r0⟩]) a0 hl.1)⟩)
/-! impl.NoKeys -/
abbrev N.impl_NoKeys (k : TKeys) : Bool := noKeys k
def impl_NoKeys {ρ : Type} (k : Bool → Option ρ) (a0 : TKeys) : Option ρ := (cond (a0.2 == (0 : Int)) (k ((List.length a0.1 : Int) == (0 : Int))) (k false))
theorem impl_NoKeys_ok {ρ : Type} (k : Bool → Option ρ) (a0 : TKeys) (l_a0 : (lnL (fun _ => True) a0.1 ∧ True)) : impl_NoKeys k  a0 = k (N.impl_NoKeys a0) := by
  simp only [impl_NoKeys, N.impl_NoKeys, noKeys]
  cases a0.2 == 0 <;> rfl
def O_impl_NoKeys : Orac := nilO
theorem ok_impl_NoKeys : OracOk Try.prog sigs O_impl_NoKeys := nilO_ok
def A_impl_NoKeys : Ann := fun b => ⟨[], []⟩
theorem a_impl_NoKeys (n : Nat) (a0 : TKeys) : absF tab sigs O_impl_NoKeys A_impl_NoKeys Try.f50 [(.bool, .no)] n [.val (.pair (.slice 3 (.int .i64)) (.int .i64)) a0] = impl_NoKeys (fun r0 => some [⟨.bool, r0⟩])  a0 := by kernel_rfl
theorem said_impl_NoKeys (a0 : TKeys) : Said Try.prog sigs_50 50 [.val (.pair (.slice 3 (.int .i64)) (.int .i64)) a0] [⟨.bool, N.impl_NoKeys a0⟩] := said_len (T := tab) (A := A_impl_NoKeys) tabOk ok_impl_NoKeys tabOk.follows Try.func50 (by kernel_rfl) (by kernel_rfl) (fun hl => ⟨0, (a_impl_NoKeys 0 a0).trans (impl_NoKeys_ok (ρ := Ret) (fun r0 => some [⟨.bool, r0⟩]) a0 hl.1)⟩)
/-! impl.isMaybe -/
abbrev N.impl_isMaybe (k : TKeys) : Bool := isMaybe k
def impl_isMaybe {ρ : Type} (k : Bool → Option ρ) (a0 : TKeys) : Option ρ := (cond (N.impl_NoKeys a0) (k true) (k (N.impl_IsKeys a0)))
theorem impl_isMaybe_ok {ρ : Type} (k : Bool → Option ρ) (a0 : TKeys) (l_a0 : (lnL (fun _ => True) a0.1 ∧ True)) : impl_isMaybe k  a0 = k (N.impl_isMaybe a0) := by
  simp only [impl_isMaybe, N.impl_NoKeys, N.impl_IsKeys, N.impl_isMaybe, isMaybe]
  cases noKeys a0 <;> rfl
def OP_impl_isMaybe (f_impl_NoKeys : TKeys → Bool) (f_impl_IsKeys : TKeys → Bool) : Orac := (orcX 47 [.val (.pair (.slice 3 (.int .i64)) (.int .i64))] (fun d => true) (fun d => [⟨.bool, f_impl_IsKeys d.1⟩]) (orcX 50 [.val (.pair (.slice 3 (.int .i64)) (.int .i64))] (fun d => true) (fun d => [⟨.bool, f_impl_NoKeys d.1⟩]) nilO))
def O_impl_isMaybe : Orac := OP_impl_isMaybe N.impl_NoKeys N.impl_IsKeys
def impl_isMaybe_P {ρ : Type} (f_impl_NoKeys : TKeys → Bool) (f_impl_IsKeys : TKeys → Bool) (k : Bool → Option ρ) (a0 : TKeys) : Option ρ := (cond (f_impl_NoKeys a0) (k true) (k (f_impl_IsKeys a0)))
theorem ok_impl_isMaybe : OracOk Try.prog sigs O_impl_isMaybe := (orcX_ok rfl (fun d g => said_impl_IsKeys d.1) (orcX_ok rfl (fun d g => said_impl_NoKeys d.1) nilO_ok))
def A_impl_isMaybe : Ann := fun b => ⟨[], []⟩
theorem aP_impl_isMaybe (f_impl_NoKeys : TKeys → Bool) (f_impl_IsKeys : TKeys → Bool) (n : Nat) (a0 : TKeys) : absF tab sigs (OP_impl_isMaybe f_impl_NoKeys f_impl_IsKeys) A_impl_isMaybe Try.f48 [(.bool, .no)] n [.val (.pair (.slice 3 (.int .i64)) (.int .i64)) a0] = impl_isMaybe_P f_impl_NoKeys f_impl_IsKeys (fun r0 => some [⟨.bool, r0⟩])  a0 := by kernel_rfl
theorem a_impl_isMaybe (n : Nat) (a0 : TKeys) : absF tab sigs O_impl_isMaybe A_impl_isMaybe Try.f48 [(.bool, .no)] n [.val (.pair (.slice 3 (.int .i64)) (.int .i64)) a0] = impl_isMaybe (fun r0 => some [⟨.bool, r0⟩])  a0 := aP_impl_isMaybe N.impl_NoKeys N.impl_IsKeys n a0
theorem said_impl_isMaybe (a0 : TKeys) : Said Try.prog sigs_48 48 [.val (.pair (.slice 3 (.int .i64)) (.int .i64)) a0] [⟨.bool, N.impl_isMaybe a0⟩] := said_len (T := tab) (A := A_impl_isMaybe) tabOk ok_impl_isMaybe tabOk.follows Try.func48 (by kernel_rfl) (by kernel_rfl) (fun hl => ⟨0, (a_impl_isMaybe 0 a0).trans (impl_isMaybe_ok (ρ := Ret) (fun r0 => some [⟨.bool, r0⟩]) a0 hl.1)⟩)
/-! impl.isWait -/
abbrev N.impl_isWait (w : Int) (k : TKeys) : Bool := isWait w k
def impl_isWait {ρ : Type} (k : Bool → Option ρ) (a0 : Int) (a1 : TKeys) : Option ρ := (cond (N.impl_NoKeys a1) (k (a0 == (0 : Int))) (k (N.impl_InRange a0 (1 : Int) (500 : Int))))
theorem impl_isWait_ok {ρ : Type} (k : Bool → Option ρ) (a0 : Int) (a1 : TKeys) (l_a1 : (lnL (fun _ => True) a1.1 ∧ True)) : impl_isWait k  a0 a1 = k (N.impl_isWait a0 a1) := by
  simp only [impl_isWait, N.impl_NoKeys, N.impl_InRange, N.impl_isWait, isWait]
  cases noKeys a1 <;> rfl
def OP_impl_isWait (f_impl_NoKeys : TKeys → Bool) (f_impl_InRange : Int → Int → Int → Bool) : Orac := (orcX 31 [.val (.int .i64), .val (.int .i64), .val (.int .i64)] (fun d => true) (fun d => [⟨.bool, f_impl_InRange d.1 d.2.1 d.2.2.1⟩]) (orcX 50 [.val (.pair (.slice 3 (.int .i64)) (.int .i64))] (fun d => true) (fun d => [⟨.bool, f_impl_NoKeys d.1⟩]) nilO))
def O_impl_isWait : Orac := OP_impl_isWait N.impl_NoKeys N.impl_InRange
def impl_isWait_P {ρ : Type} (f_impl_NoKeys : TKeys → Bool) (f_impl_InRange : Int → Int → Int → Bool) (k : Bool → Option ρ) (a0 : Int) (a1 : TKeys) : Option ρ := (cond (f_impl_NoKeys a1) (k (a0 == (0 : Int))) (k (f_impl_InRange a0 (1 : Int) (500 : Int))))
theorem ok_impl_isWait : OracOk Try.prog sigs O_impl_isWait := (orcX_ok rfl (fun d g => said_impl_InRange d.1 d.2.1 d.2.2.1) (orcX_ok rfl (fun d g => said_impl_NoKeys d.1) nilO_ok))
def A_impl_isWait : Ann := fun b => ⟨[], []⟩
theorem aP_impl_isWait (f_impl_NoKeys : TKeys → Bool) (f_impl_InRange : Int → Int → Int → Bool) (n : Nat) (a0 : Int) (a1 : TKeys) : absF tab sigs (OP_impl_isWait f_impl_NoKeys f_impl_InRange) A_impl_isWait Try.f49 [(.bool, .no)] n [.val (.int .i64) a0, .val (.pair (.slice 3 (.int .i64)) (.int .i64)) a1] = impl_isWait_P f_impl_NoKeys f_impl_InRange (fun r0 => some [⟨.bool, r0⟩])  a0 a1 := by kernel_rfl
theorem a_impl_isWait (n : Nat) (a0 : Int) (a1 : TKeys) : absF tab sigs O_impl_isWait A_impl_isWait Try.f49 [(.bool, .no)] n [.val (.int .i64) a0, .val (.pair (.slice 3 (.int .i64)) (.int .i64)) a1] = impl_isWait (fun r0 => some [⟨.bool, r0⟩])  a0 a1 := aP_impl_isWait N.impl_NoKeys N.impl_InRange n a0 a1
theorem said_impl_isWait (a0 : Int) (a1 : TKeys) : Said Try.prog sigs_49 49 [.val (.int .i64) a0, .val (.pair (.slice 3 (.int .i64)) (.int .i64)) a1] [⟨.bool, N.impl_isWait a0 a1⟩] := said_len (T := tab) (A := A_impl_isWait) tabOk ok_impl_isWait tabOk.follows Try.func49 (by kernel_rfl) (by kernel_rfl) (fun hl => ⟨0, (a_impl_isWait 0 a0 a1).trans (impl_isWait_ok (ρ := Ret) (fun r0 => some [⟨.bool, r0⟩]) a0 a1 hl.2.1)⟩)
/-! impl.IsHead -/
abbrev N.impl_IsHead (h : THead) : Bool := isHead h
def impl_IsHead {ρ : Type} (k : Bool → Option ρ) (a0 : THead) : Option ρ := (cond (N.impl_isDigest a0.1) (cond (N.impl_isDigest a0.2.2.2.2.2.2.1) (cond (N.impl_isDigest a0.2.2.2.2.2.2.2.1) (cond (N.impl_InRange a0.2.1 (0 : Int) (200 : Int)) (cond (N.impl_InRange a0.2.2.1 (1 : Int) (3 : Int)) (cond (N.impl_isSpan a0) (cond (N.impl_InRange a0.2.2.2.2.2.1 (0 : Int) (12 : Int)) (cond (N.impl_IsKeys a0.2.2.2.2.2.2.2.2.1) (cond (N.impl_isMaybe a0.2.2.2.2.2.2.2.2.2.1) (cond (N.impl_isMaybe a0.2.2.2.2.2.2.2.2.2.2.2.1) (cond (N.impl_isWait a0.2.2.2.2.2.2.2.2.2.2.1 a0.2.2.2.2.2.2.2.2.2.1) (cond a0.2.2.2.2.2.2.2.2.2.2.2.2 (k (!(N.impl_NoKeys a0.2.2.2.2.2.2.2.2.2.2.2.1))) (k true)) (k false)) (k false)) (k false)) (k false)) (k false)) (k false)) (k false)) (k false)) (k false)) (k false)) (k false))
theorem impl_IsHead_ok {ρ : Type} (k : Bool → Option ρ) (a0 : THead) (l_a0 : (True ∧ (True ∧ (True ∧ (True ∧ (True ∧ (True ∧ (True ∧ (True ∧ ((lnL (fun _ => True) a0.2.2.2.2.2.2.2.2.1.1 ∧ True) ∧ ((lnL (fun _ => True) a0.2.2.2.2.2.2.2.2.2.1.1 ∧ True) ∧ (True ∧ ((lnL (fun _ => True) a0.2.2.2.2.2.2.2.2.2.2.2.1.1 ∧ True) ∧ True))))))))))))) : impl_IsHead k  a0 = k (N.impl_IsHead a0) := by
  simp only [impl_IsHead, N.impl_isDigest, N.impl_InRange, N.impl_isSpan, N.impl_IsKeys, N.impl_isMaybe, N.impl_isWait, N.impl_NoKeys, N.impl_IsHead, isHead]
  cases isDigest a0.1
  · rfl
  cases isDigest a0.2.2.2.2.2.2.1
  · rfl
  cases isDigest a0.2.2.2.2.2.2.2.1
  · rfl
  cases inR a0.2.1 0 200
  · rfl
  cases inR a0.2.2.1 1 3
  · rfl
  cases isSpan a0
  · rfl
  cases inR a0.2.2.2.2.2.1 0 12
  · rfl
  cases isKeys a0.2.2.2.2.2.2.2.2.1
  · rfl
  cases isMaybe a0.2.2.2.2.2.2.2.2.2.1
  · rfl
  cases isMaybe a0.2.2.2.2.2.2.2.2.2.2.2.1
  · rfl
  cases isWait a0.2.2.2.2.2.2.2.2.2.2.1 a0.2.2.2.2.2.2.2.2.2.1
  · rfl
  cases a0.2.2.2.2.2.2.2.2.2.2.2.2 <;> rfl
def OP_impl_IsHead (f_impl_isDigest : Int → Bool) (f_impl_InRange : Int → Int → Int → Bool) (f_impl_isSpan : THead → Bool) (f_impl_IsKeys : TKeys → Bool) (f_impl_isMaybe : TKeys → Bool) (f_impl_isWait : Int → TKeys → Bool) (f_impl_NoKeys : TKeys → Bool) : Orac := (orcX 50 [.val (.pair (.slice 3 (.int .i64)) (.int .i64))] (fun d => true) (fun d => [⟨.bool, f_impl_NoKeys d.1⟩]) (orcX 49 [.val (.int .i64), .val (.pair (.slice 3 (.int .i64)) (.int .i64))] (fun d => true) (fun d => [⟨.bool, f_impl_isWait d.1 d.2.1⟩]) (orcX 48 [.val (.pair (.slice 3 (.int .i64)) (.int .i64))] (fun d => true) (fun d => [⟨.bool, f_impl_isMaybe d.1⟩]) (orcX 47 [.val (.pair (.slice 3 (.int .i64)) (.int .i64))] (fun d => true) (fun d => [⟨.bool, f_impl_IsKeys d.1⟩]) (orcX 46 [.val (.pair (.int .i64) (.pair (.int .i64) (.pair (.int .i64) (.pair (.int .i64) (.pair (.int .i64) (.pair (.int .i64) (.pair (.int .i64) (.pair (.int .i64) (.pair (.pair (.slice 3 (.int .i64)) (.int .i64)) (.pair (.pair (.slice 3 (.int .i64)) (.int .i64)) (.pair (.int .i64) (.pair (.pair (.slice 3 (.int .i64)) (.int .i64)) .bool))))))))))))] (fun d => true) (fun d => [⟨.bool, f_impl_isSpan d.1⟩]) (orcX 31 [.val (.int .i64), .val (.int .i64), .val (.int .i64)] (fun d => true) (fun d => [⟨.bool, f_impl_InRange d.1 d.2.1 d.2.2.1⟩]) (orcX 45 [.val (.int .i64)] (fun d => true) (fun d => [⟨.bool, f_impl_isDigest d.1⟩]) nilO)))))))
def O_impl_IsHead : Orac := OP_impl_IsHead N.impl_isDigest N.impl_InRange N.impl_isSpan N.impl_IsKeys N.impl_isMaybe N.impl_isWait N.impl_NoKeys
def impl_IsHead_P {ρ : Type} (f_impl_isDigest : Int → Bool) (f_impl_InRange : Int → Int → Int → Bool) (f_impl_isSpan : THead → Bool) (f_impl_IsKeys : TKeys → Bool) (f_impl_isMaybe : TKeys → Bool) (f_impl_isWait : Int → TKeys → Bool) (f_impl_NoKeys : TKeys → Bool) (k : Bool → Option ρ) (a0 : THead) : Option ρ := (cond (f_impl_isDigest a0.1) (cond (f_impl_isDigest a0.2.2.2.2.2.2.1) (cond (f_impl_isDigest a0.2.2.2.2.2.2.2.1) (cond (f_impl_InRange a0.2.1 (0 : Int) (200 : Int)) (cond (f_impl_InRange a0.2.2.1 (1 : Int) (3 : Int)) (cond (f_impl_isSpan a0) (cond (f_impl_InRange a0.2.2.2.2.2.1 (0 : Int) (12 : Int)) (cond (f_impl_IsKeys a0.2.2.2.2.2.2.2.2.1) (cond (f_impl_isMaybe a0.2.2.2.2.2.2.2.2.2.1) (cond (f_impl_isMaybe a0.2.2.2.2.2.2.2.2.2.2.2.1) (cond (f_impl_isWait a0.2.2.2.2.2.2.2.2.2.2.1 a0.2.2.2.2.2.2.2.2.2.1) (cond a0.2.2.2.2.2.2.2.2.2.2.2.2 (k (!(f_impl_NoKeys a0.2.2.2.2.2.2.2.2.2.2.2.1))) (k true)) (k false)) (k false)) (k false)) (k false)) (k false)) (k false)) (k false)) (k false)) (k false)) (k false)) (k false))
theorem ok_impl_IsHead : OracOk Try.prog sigs O_impl_IsHead := (orcX_ok rfl (fun d g => said_impl_NoKeys d.1) (orcX_ok rfl (fun d g => said_impl_isWait d.1 d.2.1) (orcX_ok rfl (fun d g => said_impl_isMaybe d.1) (orcX_ok rfl (fun d g => said_impl_IsKeys d.1) (orcX_ok rfl (fun d g => said_impl_isSpan d.1) (orcX_ok rfl (fun d g => said_impl_InRange d.1 d.2.1 d.2.2.1) (orcX_ok rfl (fun d g => said_impl_isDigest d.1) nilO_ok)))))))
def A_impl_IsHead : Ann := fun b => ⟨[], []⟩
theorem aP_impl_IsHead (f_impl_isDigest : Int → Bool) (f_impl_InRange : Int → Int → Int → Bool) (f_impl_isSpan : THead → Bool) (f_impl_IsKeys : TKeys → Bool) (f_impl_isMaybe : TKeys → Bool) (f_impl_isWait : Int → TKeys → Bool) (f_impl_NoKeys : TKeys → Bool) (n : Nat) (a0 : THead) : absF tab sigs (OP_impl_IsHead f_impl_isDigest f_impl_InRange f_impl_isSpan f_impl_IsKeys f_impl_isMaybe f_impl_isWait f_impl_NoKeys) A_impl_IsHead Try.f25 [(.bool, .no)] n [.val (.pair (.int .i64) (.pair (.int .i64) (.pair (.int .i64) (.pair (.int .i64) (.pair (.int .i64) (.pair (.int .i64) (.pair (.int .i64) (.pair (.int .i64) (.pair (.pair (.slice 3 (.int .i64)) (.int .i64)) (.pair (.pair (.slice 3 (.int .i64)) (.int .i64)) (.pair (.int .i64) (.pair (.pair (.slice 3 (.int .i64)) (.int .i64)) .bool)))))))))))) a0] = impl_IsHead_P f_impl_isDigest f_impl_InRange f_impl_isSpan f_impl_IsKeys f_impl_isMaybe f_impl_isWait f_impl_NoKeys (fun r0 => some [⟨.bool, r0⟩])  a0 := by kernel_rfl
theorem a_impl_IsHead (n : Nat) (a0 : THead) : absF tab sigs O_impl_IsHead A_impl_IsHead Try.f25 [(.bool, .no)] n [.val (.pair (.int .i64) (.pair (.int .i64) (.pair (.int .i64) (.pair (.int .i64) (.pair (.int .i64) (.pair (.int .i64) (.pair (.int .i64) (.pair (.int .i64) (.pair (.pair (.slice 3 (.int .i64)) (.int .i64)) (.pair (.pair (.slice 3 (.int .i64)) (.int .i64)) (.pair (.int .i64) (.pair (.pair (.slice 3 (.int .i64)) (.int .i64)) .bool)))))))))))) a0] = impl_IsHead (fun r0 => some [⟨.bool, r0⟩])  a0 := aP_impl_IsHead N.impl_isDigest N.impl_InRange N.impl_isSpan N.impl_IsKeys N.impl_isMaybe N.impl_isWait N.impl_NoKeys n a0
theorem said_impl_IsHead (a0 : THead) : Said Try.prog sigs_25 25 [.val (.pair (.int .i64) (.pair (.int .i64) (.pair (.int .i64) (.pair (.int .i64) (.pair (.int .i64) (.pair (.int .i64) (.pair (.int .i64) (.pair (.int .i64) (.pair (.pair (.slice 3 (.int .i64)) (.int .i64)) (.pair (.pair (.slice 3 (.int .i64)) (.int .i64)) (.pair (.int .i64) (.pair (.pair (.slice 3 (.int .i64)) (.int .i64)) .bool)))))))))))) a0] [⟨.bool, N.impl_IsHead a0⟩] := said_len (T := tab) (A := A_impl_IsHead) tabOk ok_impl_IsHead tabOk.follows Try.func25 (by kernel_rfl) (by kernel_rfl) (fun hl => ⟨0, (a_impl_IsHead 0 a0).trans (impl_IsHead_ok (ρ := Ret) (fun r0 => some [⟨.bool, r0⟩]) a0 hl.1)⟩)
/-! spec.CanClaim -/
abbrev N.spec_CanClaim (h : THead) (now : Int) : Bool := canClaim h now
def spec_CanClaim {ρ : Type} (k : Bool → Option ρ) (a0 : THead) (a1 : Int) : Option ρ := (cond (N.spec_IsHead a0) (cond (!a0.2.2.2.2.2.2.2.2.2.2.2.2) (cond (!(N.spec_NoKeys a0.2.2.2.2.2.2.2.2.2.1)) (k (decide (a1 ≥ (IntKind.wrap .i64 (a0.2.2.2.2.1 + a0.2.2.2.2.2.2.2.2.2.2.1))))) (k false)) (k false)) (k false))
theorem spec_CanClaim_ok {ρ : Type} (k : Bool → Option ρ) (a0 : THead) (a1 : Int) (l_a0 : (True ∧ (True ∧ (True ∧ (True ∧ (True ∧ (True ∧ (True ∧ (True ∧ ((lnL (fun _ => True) a0.2.2.2.2.2.2.2.2.1.1 ∧ True) ∧ ((lnL (fun _ => True) a0.2.2.2.2.2.2.2.2.2.1.1 ∧ True) ∧ (True ∧ ((lnL (fun _ => True) a0.2.2.2.2.2.2.2.2.2.2.2.1.1 ∧ True) ∧ True))))))))))))) : spec_CanClaim k  a0 a1 = k (N.spec_CanClaim a0 a1) := by
  simp only [spec_CanClaim, N.spec_IsHead, N.spec_NoKeys, N.spec_CanClaim, canClaim]
  cases isHead a0
  · rfl
  cases a0.2.2.2.2.2.2.2.2.2.2.2.2 <;> cases noKeys a0.2.2.2.2.2.2.2.2.2.1 <;> rfl
def OP_spec_CanClaim (f_spec_IsHead : THead → Bool) (f_spec_NoKeys : TKeys → Bool) : Orac := (orcX 44 [.val (.pair (.slice 3 (.int .i64)) (.int .i64))] (fun d => true) (fun d => [⟨.bool, f_spec_NoKeys d.1⟩]) (orcX 24 [.val (.pair (.int .i64) (.pair (.int .i64) (.pair (.int .i64) (.pair (.int .i64) (.pair (.int .i64) (.pair (.int .i64) (.pair (.int .i64) (.pair (.int .i64) (.pair (.pair (.slice 3 (.int .i64)) (.int .i64)) (.pair (.pair (.slice 3 (.int .i64)) (.int .i64)) (.pair (.int .i64) (.pair (.pair (.slice 3 (.int .i64)) (.int .i64)) .bool))))))))))))] (fun d => true) (fun d => [⟨.bool, f_spec_IsHead d.1⟩]) nilO))
def O_spec_CanClaim : Orac := OP_spec_CanClaim N.spec_IsHead N.spec_NoKeys
def spec_CanClaim_P {ρ : Type} (f_spec_IsHead : THead → Bool) (f_spec_NoKeys : TKeys → Bool) (k : Bool → Option ρ) (a0 : THead) (a1 : Int) : Option ρ := (cond (f_spec_IsHead a0) (cond (!a0.2.2.2.2.2.2.2.2.2.2.2.2) (cond (!(f_spec_NoKeys a0.2.2.2.2.2.2.2.2.2.1)) (k (decide (a1 ≥ (IntKind.wrap .i64 (a0.2.2.2.2.1 + a0.2.2.2.2.2.2.2.2.2.2.1))))) (k false)) (k false)) (k false))
theorem ok_spec_CanClaim : OracOk Try.prog sigs O_spec_CanClaim := (orcX_ok rfl (fun d g => said_spec_NoKeys d.1) (orcX_ok rfl (fun d g => said_spec_IsHead d.1) nilO_ok))
def A_spec_CanClaim : Ann := fun b => ⟨[], []⟩
theorem aP_spec_CanClaim (f_spec_IsHead : THead → Bool) (f_spec_NoKeys : TKeys → Bool) (n : Nat) (a0 : THead) (a1 : Int) : absF tab sigs (OP_spec_CanClaim f_spec_IsHead f_spec_NoKeys) A_spec_CanClaim Try.f26 [(.bool, .no)] n [.val (.pair (.int .i64) (.pair (.int .i64) (.pair (.int .i64) (.pair (.int .i64) (.pair (.int .i64) (.pair (.int .i64) (.pair (.int .i64) (.pair (.int .i64) (.pair (.pair (.slice 3 (.int .i64)) (.int .i64)) (.pair (.pair (.slice 3 (.int .i64)) (.int .i64)) (.pair (.int .i64) (.pair (.pair (.slice 3 (.int .i64)) (.int .i64)) .bool)))))))))))) a0, .val (.int .i64) a1] = spec_CanClaim_P f_spec_IsHead f_spec_NoKeys (fun r0 => some [⟨.bool, r0⟩])  a0 a1 := by kernel_rfl
theorem a_spec_CanClaim (n : Nat) (a0 : THead) (a1 : Int) : absF tab sigs O_spec_CanClaim A_spec_CanClaim Try.f26 [(.bool, .no)] n [.val (.pair (.int .i64) (.pair (.int .i64) (.pair (.int .i64) (.pair (.int .i64) (.pair (.int .i64) (.pair (.int .i64) (.pair (.int .i64) (.pair (.int .i64) (.pair (.pair (.slice 3 (.int .i64)) (.int .i64)) (.pair (.pair (.slice 3 (.int .i64)) (.int .i64)) (.pair (.int .i64) (.pair (.pair (.slice 3 (.int .i64)) (.int .i64)) .bool)))))))))))) a0, .val (.int .i64) a1] = spec_CanClaim (fun r0 => some [⟨.bool, r0⟩])  a0 a1 := aP_spec_CanClaim N.spec_IsHead N.spec_NoKeys n a0 a1
theorem said_spec_CanClaim (a0 : THead) (a1 : Int) : Said Try.prog sigs_26 26 [.val (.pair (.int .i64) (.pair (.int .i64) (.pair (.int .i64) (.pair (.int .i64) (.pair (.int .i64) (.pair (.int .i64) (.pair (.int .i64) (.pair (.int .i64) (.pair (.pair (.slice 3 (.int .i64)) (.int .i64)) (.pair (.pair (.slice 3 (.int .i64)) (.int .i64)) (.pair (.int .i64) (.pair (.pair (.slice 3 (.int .i64)) (.int .i64)) .bool)))))))))))) a0, .val (.int .i64) a1] [⟨.bool, N.spec_CanClaim a0 a1⟩] := said_len (T := tab) (A := A_spec_CanClaim) tabOk ok_spec_CanClaim tabOk.follows Try.func26 (by kernel_rfl) (by kernel_rfl) (fun hl => ⟨0, (a_spec_CanClaim 0 a0 a1).trans (spec_CanClaim_ok (ρ := Ret) (fun r0 => some [⟨.bool, r0⟩]) a0 a1 hl.1)⟩)
end Go.Proofs.Ytlaobplhnelniaa.Ref
