/- Functions of the program: what each computes, and that it does so.
   Conditions: as each theorem states. -/
import Derived.Test.YtlaobplhnelniaaSA
set_option linter.unusedVariables false
set_option linter.unusedSimpArgs false
set_option maxRecDepth 100000
namespace Go.Proofs.Ytlaobplhnelniaa.Ref
open Go.RowKit Go.Proofs.YtlaobplhnelniaaW.PrintWords Go.Proofs.YtlaobplhnelniaaW.PrintLast
/-! laws.szIntS -/
abbrev G.laws_szIntS (a : List Int) (left : Int) : Bool := gL left
abbrev N.laws_szIntS (a : List Int) (left : Int) : Int := sub1 a.length left
def laws_szIntS {ρ : Type} (k : Int → Option ρ) (a0 : (List Int)) (a1 : Int) : Option ρ := (cond (decide ((IntKind.wrap .i64 (a1 - (List.length a0 : Int))) < (0 : Int))) (k (-1 : Int)) (k (IntKind.wrap .i64 (a1 - (List.length a0 : Int)))))
theorem laws_szIntS_ok {ρ : Type} (k : Int → Option ρ) (a0 : (List Int)) (a1 : Int) (l_a0 : lnL (fun _ => True) a0) (g : G.laws_szIntS a0 a1 = true) : laws_szIntS k  a0 a1 = k (N.laws_szIntS a0 a1) := by
  unfold G.laws_szIntS at g
  exact sz_first (v := 0) (c := k) g l_a0.1 (fun g' => by
    have : 0 ≤ sub1 a0.length a1 := of_decide_eq_true ((Bool.and_eq_true _ _).mp g').1
    rw [sub1_pos (w := 0) (by omega)]
    simp)
def O_laws_szIntS : Orac := nilO
theorem ok_laws_szIntS : OracOk Try.prog sigs O_laws_szIntS := nilO_ok
def A_laws_szIntS : Ann := fun b => ⟨[], []⟩
theorem a_laws_szIntS (n : Nat) (a0 : (List Int)) (a1 : Int) : absF tab sigs O_laws_szIntS A_laws_szIntS Try.f51 [((.int .i64), .no)] n [.val (.slice 3 (.int .i64)) a0, .val (.int .i64) a1] = laws_szIntS (fun r0 => some [⟨(.int .i64), r0⟩])  a0 a1 := by kernel_rfl
theorem said_laws_szIntS (a0 : (List Int)) (a1 : Int) (g : G.laws_szIntS a0 a1 = true) : Said Try.prog sigs_51 51 [.val (.slice 3 (.int .i64)) a0, .val (.int .i64) a1] [⟨(.int .i64), N.laws_szIntS a0 a1⟩] := said_len (T := tab) (A := A_laws_szIntS) tabOk ok_laws_szIntS tabOk.follows Try.func51 (by kernel_rfl) (by kernel_rfl) (fun hl => ⟨0, (a_laws_szIntS 0 a0 a1).trans (laws_szIntS_ok (ρ := Ret) (fun r0 => some [⟨(.int .i64), r0⟩]) a0 a1 hl.1 g)⟩)
/-! laws.szKeys -/
abbrev G.laws_szKeys (a : TKeys) (left : Int) : Bool := gL left
abbrev N.laws_szKeys (a : TKeys) (left : Int) : Int := sub1 (wK a) left
def laws_szKeys {ρ : Type} (k : Int → Option ρ) (a0 : TKeys) (a1 : Int) : Option ρ := (cond (G.laws_szIntS a0.1 a1) (cond (decide ((N.laws_szIntS a0.1 a1) < (0 : Int))) (k (-1 : Int)) (k (N.laws_szIntS a0.1 a1))) none)
theorem laws_szKeys_ok {ρ : Type} (k : Int → Option ρ) (a0 : TKeys) (a1 : Int) (l_a0 : (lnL (fun _ => True) a0.1 ∧ True)) (g : G.laws_szKeys a0 a1 = true) : laws_szKeys k  a0 a1 = k (N.laws_szKeys a0 a1) := by
  unfold G.laws_szKeys at g
  show cond (gL a1) _ none = _
  rw [g]
  exact sz_last
def OP_laws_szKeys (f_laws_szIntS : (List Int) → Int → Int) (g_laws_szIntS : (List Int) → Int → Bool) : Orac := (orcX 51 [.val (.slice 3 (.int .i64)), .val (.int .i64)] (fun d => g_laws_szIntS d.1 d.2.1) (fun d => [⟨(.int .i64), f_laws_szIntS d.1 d.2.1⟩]) nilO)
def O_laws_szKeys : Orac := OP_laws_szKeys N.laws_szIntS G.laws_szIntS
def laws_szKeys_P {ρ : Type} (f_laws_szIntS : (List Int) → Int → Int) (g_laws_szIntS : (List Int) → Int → Bool) (k : Int → Option ρ) (a0 : TKeys) (a1 : Int) : Option ρ := (cond (g_laws_szIntS a0.1 a1) (cond (decide ((f_laws_szIntS a0.1 a1) < (0 : Int))) (k (-1 : Int)) (k (f_laws_szIntS a0.1 a1))) none)
theorem ok_laws_szKeys : OracOk Try.prog sigs O_laws_szKeys := (orcX_ok rfl (fun d g => said_laws_szIntS d.1 d.2.1 g) nilO_ok)
def A_laws_szKeys : Ann := fun b => ⟨[], []⟩
theorem aP_laws_szKeys (f_laws_szIntS : (List Int) → Int → Int) (g_laws_szIntS : (List Int) → Int → Bool) (n : Nat) (a0 : TKeys) (a1 : Int) : absF tab sigs (OP_laws_szKeys f_laws_szIntS g_laws_szIntS) A_laws_szKeys Try.f28 [((.int .i64), .no)] n [.val (.pair (.slice 3 (.int .i64)) (.int .i64)) a0, .val (.int .i64) a1] = laws_szKeys_P f_laws_szIntS g_laws_szIntS (fun r0 => some [⟨(.int .i64), r0⟩])  a0 a1 := by kernel_rfl
theorem a_laws_szKeys (n : Nat) (a0 : TKeys) (a1 : Int) : absF tab sigs O_laws_szKeys A_laws_szKeys Try.f28 [((.int .i64), .no)] n [.val (.pair (.slice 3 (.int .i64)) (.int .i64)) a0, .val (.int .i64) a1] = laws_szKeys (fun r0 => some [⟨(.int .i64), r0⟩])  a0 a1 := aP_laws_szKeys N.laws_szIntS G.laws_szIntS n a0 a1
theorem said_laws_szKeys (a0 : TKeys) (a1 : Int) (g : G.laws_szKeys a0 a1 = true) : Said Try.prog sigs_28 28 [.val (.pair (.slice 3 (.int .i64)) (.int .i64)) a0, .val (.int .i64) a1] [⟨(.int .i64), N.laws_szKeys a0 a1⟩] := said_len (T := tab) (A := A_laws_szKeys) tabOk ok_laws_szKeys tabOk.follows Try.func28 (by kernel_rfl) (by kernel_rfl) (fun hl => ⟨0, (a_laws_szKeys 0 a0 a1).trans (laws_szKeys_ok (ρ := Ret) (fun r0 => some [⟨(.int .i64), r0⟩]) a0 a1 hl.1 g)⟩)
/-! laws.szHead -/
abbrev G.laws_szHead (a : THead) (left : Int) : Bool := gL left
abbrev N.laws_szHead (a : THead) (left : Int) : Int := sub1 (wH a) left
def laws_szHead {ρ : Type} (k : Int → Option ρ) (a0 : THead) (a1 : Int) : Option ρ := (cond (G.laws_szKeys a0.2.2.2.2.2.2.2.2.1 a1) (cond (decide ((N.laws_szKeys a0.2.2.2.2.2.2.2.2.1 a1) < (0 : Int))) (k (-1 : Int)) (cond (G.laws_szKeys a0.2.2.2.2.2.2.2.2.2.1 (N.laws_szKeys a0.2.2.2.2.2.2.2.2.1 a1)) (cond (decide ((N.laws_szKeys a0.2.2.2.2.2.2.2.2.2.1 (N.laws_szKeys a0.2.2.2.2.2.2.2.2.1 a1)) < (0 : Int))) (k (-1 : Int)) (cond (G.laws_szKeys a0.2.2.2.2.2.2.2.2.2.2.2.1 (N.laws_szKeys a0.2.2.2.2.2.2.2.2.2.1 (N.laws_szKeys a0.2.2.2.2.2.2.2.2.1 a1))) (cond (decide ((N.laws_szKeys a0.2.2.2.2.2.2.2.2.2.2.2.1 (N.laws_szKeys a0.2.2.2.2.2.2.2.2.2.1 (N.laws_szKeys a0.2.2.2.2.2.2.2.2.1 a1))) < (0 : Int))) (k (-1 : Int)) (k (N.laws_szKeys a0.2.2.2.2.2.2.2.2.2.2.2.1 (N.laws_szKeys a0.2.2.2.2.2.2.2.2.2.1 (N.laws_szKeys a0.2.2.2.2.2.2.2.2.1 a1))))) none)) none)) none)
theorem laws_szHead_ok {ρ : Type} (k : Int → Option ρ) (a0 : THead) (a1 : Int) (l_a0 : (True ∧ (True ∧ (True ∧ (True ∧ (True ∧ (True ∧ (True ∧ (True ∧ ((lnL (fun _ => True) a0.2.2.2.2.2.2.2.2.1.1 ∧ True) ∧ ((lnL (fun _ => True) a0.2.2.2.2.2.2.2.2.2.1.1 ∧ True) ∧ (True ∧ ((lnL (fun _ => True) a0.2.2.2.2.2.2.2.2.2.2.2.1.1 ∧ True) ∧ True))))))))))))) (g : G.laws_szHead a0 a1 = true) : laws_szHead k  a0 a1 = k (N.laws_szHead a0 a1) := by
  unfold G.laws_szHead at g
  show cond (gL a1) _ none = _
  rw [g]
  refine sz_then g (fun g1 => ?_)
  show cond (gL _) _ none = _
  rw [g1]
  refine sz_then g1 (fun g2 => ?_)
  show cond (gL _) _ none = _
  rw [g2]
  exact sz_last
def OP_laws_szHead (f_laws_szKeys : TKeys → Int → Int) (g_laws_szKeys : TKeys → Int → Bool) : Orac := (orcX 28 [.val (.pair (.slice 3 (.int .i64)) (.int .i64)), .val (.int .i64)] (fun d => g_laws_szKeys d.1 d.2.1) (fun d => [⟨(.int .i64), f_laws_szKeys d.1 d.2.1⟩]) nilO)
def O_laws_szHead : Orac := OP_laws_szHead N.laws_szKeys G.laws_szKeys
def laws_szHead_P {ρ : Type} (f_laws_szKeys : TKeys → Int → Int) (g_laws_szKeys : TKeys → Int → Bool) (k : Int → Option ρ) (a0 : THead) (a1 : Int) : Option ρ := (cond (g_laws_szKeys a0.2.2.2.2.2.2.2.2.1 a1) (cond (decide ((f_laws_szKeys a0.2.2.2.2.2.2.2.2.1 a1) < (0 : Int))) (k (-1 : Int)) (cond (g_laws_szKeys a0.2.2.2.2.2.2.2.2.2.1 (f_laws_szKeys a0.2.2.2.2.2.2.2.2.1 a1)) (cond (decide ((f_laws_szKeys a0.2.2.2.2.2.2.2.2.2.1 (f_laws_szKeys a0.2.2.2.2.2.2.2.2.1 a1)) < (0 : Int))) (k (-1 : Int)) (cond (g_laws_szKeys a0.2.2.2.2.2.2.2.2.2.2.2.1 (f_laws_szKeys a0.2.2.2.2.2.2.2.2.2.1 (f_laws_szKeys a0.2.2.2.2.2.2.2.2.1 a1))) (cond (decide ((f_laws_szKeys a0.2.2.2.2.2.2.2.2.2.2.2.1 (f_laws_szKeys a0.2.2.2.2.2.2.2.2.2.1 (f_laws_szKeys a0.2.2.2.2.2.2.2.2.1 a1))) < (0 : Int))) (k (-1 : Int)) (k (f_laws_szKeys a0.2.2.2.2.2.2.2.2.2.2.2.1 (f_laws_szKeys a0.2.2.2.2.2.2.2.2.2.1 (f_laws_szKeys a0.2.2.2.2.2.2.2.2.1 a1))))) none)) none)) none)
theorem ok_laws_szHead : OracOk Try.prog sigs O_laws_szHead := (orcX_ok rfl (fun d g => said_laws_szKeys d.1 d.2.1 g) nilO_ok)
def A_laws_szHead : Ann := fun b => ⟨[], []⟩
theorem aP_laws_szHead (f_laws_szKeys : TKeys → Int → Int) (g_laws_szKeys : TKeys → Int → Bool) (n : Nat) (a0 : THead) (a1 : Int) : absF tab sigs (OP_laws_szHead f_laws_szKeys g_laws_szKeys) A_laws_szHead Try.f9 [((.int .i64), .no)] n [.val (.pair (.int .i64) (.pair (.int .i64) (.pair (.int .i64) (.pair (.int .i64) (.pair (.int .i64) (.pair (.int .i64) (.pair (.int .i64) (.pair (.int .i64) (.pair (.pair (.slice 3 (.int .i64)) (.int .i64)) (.pair (.pair (.slice 3 (.int .i64)) (.int .i64)) (.pair (.int .i64) (.pair (.pair (.slice 3 (.int .i64)) (.int .i64)) .bool)))))))))))) a0, .val (.int .i64) a1] = laws_szHead_P f_laws_szKeys g_laws_szKeys (fun r0 => some [⟨(.int .i64), r0⟩])  a0 a1 := by kernel_rfl
theorem a_laws_szHead (n : Nat) (a0 : THead) (a1 : Int) : absF tab sigs O_laws_szHead A_laws_szHead Try.f9 [((.int .i64), .no)] n [.val (.pair (.int .i64) (.pair (.int .i64) (.pair (.int .i64) (.pair (.int .i64) (.pair (.int .i64) (.pair (.int .i64) (.pair (.int .i64) (.pair (.int .i64) (.pair (.pair (.slice 3 (.int .i64)) (.int .i64)) (.pair (.pair (.slice 3 (.int .i64)) (.int .i64)) (.pair (.int .i64) (.pair (.pair (.slice 3 (.int .i64)) (.int .i64)) .bool)))))))))))) a0, .val (.int .i64) a1] = laws_szHead (fun r0 => some [⟨(.int .i64), r0⟩])  a0 a1 := aP_laws_szHead N.laws_szKeys G.laws_szKeys n a0 a1
theorem said_laws_szHead (a0 : THead) (a1 : Int) (g : G.laws_szHead a0 a1 = true) : Said Try.prog sigs_9 9 [.val (.pair (.int .i64) (.pair (.int .i64) (.pair (.int .i64) (.pair (.int .i64) (.pair (.int .i64) (.pair (.int .i64) (.pair (.int .i64) (.pair (.int .i64) (.pair (.pair (.slice 3 (.int .i64)) (.int .i64)) (.pair (.pair (.slice 3 (.int .i64)) (.int .i64)) (.pair (.int .i64) (.pair (.pair (.slice 3 (.int .i64)) (.int .i64)) .bool)))))))))))) a0, .val (.int .i64) a1] [⟨(.int .i64), N.laws_szHead a0 a1⟩] := said_len (T := tab) (A := A_laws_szHead) tabOk ok_laws_szHead tabOk.follows Try.func9 (by kernel_rfl) (by kernel_rfl) (fun hl => ⟨0, (a_laws_szHead 0 a0 a1).trans (laws_szHead_ok (ρ := Ret) (fun r0 => some [⟨(.int .i64), r0⟩]) a0 a1 hl.1 g)⟩)
/-! laws.toIntS -/
abbrev G.laws_toIntS (a : List Int) : Bool := decide (a.length ≤ 1048576)
abbrev N.laws_toIntS (a : List Int) : List Int := a
def laws_toIntS_L0 {ρ : Type} (k : (List Int) → Option ρ) (L0 : (List Int) → Int → (List Int) → Option ρ) (v0_0 : (List Int)) (v0_1 : Int) (v0_2 : (List Int)) : Option ρ := (cond (decide (v0_1 < (List.length v0_0 : Int))) (cond (inRange v0_1 (List.length v0_0)) (cond (inRange v0_1 (List.length v0_2)) (cond (inRange v0_1 (List.length v0_2)) (L0 v0_0 (IntKind.wrap .i64 (v0_1 + (1 : Int))) (List.set v0_2 (Int.toNat v0_1) (List.getD v0_0 (Int.toNat v0_1) (0 : Int)))) none) none) none) (k v0_2))
def laws_toIntS {ρ : Type} (k : (List Int) → Option ρ) (L0 : (List Int) → Int → (List Int) → Option ρ) (a0 : (List Int)) : Option ρ := (cond (decide (0 ≤ (List.length a0 : Int)) && decide ((List.length a0 : Int) ≤ 1099511627776)) (L0 a0 (0 : Int) (List.replicate (Int.toNat (List.length a0 : Int)) (0 : Int))) none)
theorem laws_toIntS_ok {ρ : Type} (k : (List Int) → Option ρ) (a0 : (List Int)) (l_a0 : lnL (fun _ => True) a0) (g : G.laws_toIntS a0 = true) : ∃ n0, ∀ n, n0 ≤ n → ∀ (L0 : Nat → (List Int) → Int → (List Int) → Option ρ) (h0 : ∀ ( m : Nat) (v0_0 : (List Int)) (v0_1 : Int) (v0_2 : (List Int)), L0 (m + 1) v0_0 v0_1 v0_2 = laws_toIntS_L0 k (L0 m) v0_0 v0_1 v0_2), laws_toIntS k (L0 n) a0 = k (N.laws_toIntS a0) := by
  unfold G.laws_toIntS at g
  refine ⟨a0.length + 1, fun n hn L0 h0 => ?_⟩
  have g' : a0.length ≤ 1048576 := by simpa using g
  have hg : (decide (0 ≤ (a0.length : Int)) && decide ((a0.length : Int) ≤ 1099511627776)) = true := by simp; omega
  show cond _ _ none = _
  rw [hg]
  refine (raw_copy (a := a0) 0 0 (fun x => x) (k := k) (L := fun m i out => L0 m a0 i out) (R := fun i out c => laws_toIntS_L0 k (fun _ i out => c i out) a0 i out) (fun m i s => h0 m a0 i s) (fun j out c hj hl => ?_) (fun s c => ?_) hn).trans (by simp)
  · simp [laws_toIntS_L0, lt_nat, inRange_nat, hj, hl, wrap_succ (j := j) (by unfold big; omega)]
  · simp [laws_toIntS_L0]
def O_laws_toIntS : Orac := nilO
theorem ok_laws_toIntS : OracOk Try.prog sigs O_laws_toIntS := nilO_ok
def A_laws_toIntS : Ann := fun b => cond (Nat.beq b 0) ⟨[(0, false), (3, true), (4, false)], []⟩ (⟨[], []⟩)
def S_laws_toIntS_0 (v0_0 : (List Int)) (v0_1 : Int) (v0_2 : (List Int)) : St := [(kT 0, some (.tv (.v (.slice 3 (.int .i64)) v0_0 .no))), (kT 3, some (.tv (.v (.slice 3 (.int .i64)) [] (.own 24)))), (kT 4, some (.tv (.v (.int .i64) v0_1 .no))), (kR 24, some (.row 3 (.int .i64) v0_2))]
noncomputable def L_laws_toIntS_0 (n m : Nat) : St → Option Ret := loopOf tab sigs O_laws_toIntS A_laws_toIntS Try.f52 [((.slice 3 (.int .i64)), (.own 0))] n (fun _ => 0) 0 m
theorem b_laws_toIntS_0 (n m : Nat) (v0_0 : (List Int)) (v0_1 : Int) (v0_2 : (List Int)) : L_laws_toIntS_0 n (m + 1) (S_laws_toIntS_0 v0_0 v0_1 v0_2) = laws_toIntS_L0 (fun r0 => some [⟨(.slice 3 (.int .i64)), r0⟩]) (fun v0_0 v0_1 v0_2 => L_laws_toIntS_0 n m (S_laws_toIntS_0 v0_0 v0_1 v0_2)) v0_0 v0_1 v0_2 := by kernel_rfl
theorem a_laws_toIntS (n : Nat) (a0 : (List Int)) : absF tab sigs O_laws_toIntS A_laws_toIntS Try.f52 [((.slice 3 (.int .i64)), (.own 0))] n [.val (.slice 3 (.int .i64)) a0] = laws_toIntS (fun r0 => some [⟨(.slice 3 (.int .i64)), r0⟩]) (fun v0_0 v0_1 v0_2 => L_laws_toIntS_0 n n (S_laws_toIntS_0 v0_0 v0_1 v0_2)) a0 := by kernel_rfl
theorem said_laws_toIntS (a0 : (List Int)) (g : G.laws_toIntS a0 = true) : Said Try.prog sigs_52 52 [.val (.slice 3 (.int .i64)) a0] [⟨(.slice 3 (.int .i64)), N.laws_toIntS a0⟩] := said_len (T := tab) (A := A_laws_toIntS) tabOk ok_laws_toIntS tabOk.follows Try.func52 (by kernel_rfl) (by kernel_rfl) (fun hl => let ⟨n, hn⟩ := laws_toIntS_ok (ρ := Ret) (fun r0 => some [⟨(.slice 3 (.int .i64)), r0⟩]) a0 hl.1 g; ⟨n, (a_laws_toIntS n a0).trans (hn n (Nat.le_refl n) (fun  m v0_0 v0_1 v0_2 => L_laws_toIntS_0 n  m (S_laws_toIntS_0 v0_0 v0_1 v0_2)) (fun  m v0_0 v0_1 v0_2 => b_laws_toIntS_0 n  m v0_0 v0_1 v0_2))⟩)
/-! laws.toKeys -/
abbrev G.laws_toKeys (a : TKeys) : Bool := decide (wK a ≤ 1048576)
abbrev N.laws_toKeys (a : TKeys) : TKeys := a
def laws_toKeys {ρ : Type} (k : TKeys → Option ρ) (a0 : TKeys) : Option ρ := (cond (G.laws_toIntS a0.1) (k ((N.laws_toIntS a0.1), a0.2)) none)
theorem laws_toKeys_ok {ρ : Type} (k : TKeys → Option ρ) (a0 : TKeys) (l_a0 : (lnL (fun _ => True) a0.1 ∧ True)) (g : G.laws_toKeys a0 = true) : laws_toKeys k  a0 = k (N.laws_toKeys a0) := by
  unfold G.laws_toKeys at g
  show cond (decide (wK a0 ≤ 1048576)) _ none = _
  rw [g]
  rfl
def OP_laws_toKeys (f_laws_toIntS : (List Int) → (List Int)) (g_laws_toIntS : (List Int) → Bool) : Orac := (orcX 52 [.val (.slice 3 (.int .i64))] (fun d => g_laws_toIntS d.1) (fun d => [⟨(.slice 3 (.int .i64)), f_laws_toIntS d.1⟩]) nilO)
def O_laws_toKeys : Orac := OP_laws_toKeys N.laws_toIntS G.laws_toIntS
def laws_toKeys_P {ρ : Type} (f_laws_toIntS : (List Int) → (List Int)) (g_laws_toIntS : (List Int) → Bool) (k : TKeys → Option ρ) (a0 : TKeys) : Option ρ := (cond (g_laws_toIntS a0.1) (k ((f_laws_toIntS a0.1), a0.2)) none)
theorem ok_laws_toKeys : OracOk Try.prog sigs O_laws_toKeys := (orcX_ok rfl (fun d g => said_laws_toIntS d.1 g) nilO_ok)
def A_laws_toKeys : Ann := fun b => ⟨[], []⟩
theorem aP_laws_toKeys (f_laws_toIntS : (List Int) → (List Int)) (g_laws_toIntS : (List Int) → Bool) (n : Nat) (a0 : TKeys) : absF tab sigs (OP_laws_toKeys f_laws_toIntS g_laws_toIntS) A_laws_toKeys Try.f30 [((.pair (.slice 3 (.int .i64)) (.int .i64)), (.pair (.own 0) .no))] n [.val (.pair (.slice 3 (.int .i64)) (.int .i64)) a0] = laws_toKeys_P f_laws_toIntS g_laws_toIntS (fun r0 => some [⟨(.pair (.slice 3 (.int .i64)) (.int .i64)), r0⟩])  a0 := by kernel_rfl
theorem a_laws_toKeys (n : Nat) (a0 : TKeys) : absF tab sigs O_laws_toKeys A_laws_toKeys Try.f30 [((.pair (.slice 3 (.int .i64)) (.int .i64)), (.pair (.own 0) .no))] n [.val (.pair (.slice 3 (.int .i64)) (.int .i64)) a0] = laws_toKeys (fun r0 => some [⟨(.pair (.slice 3 (.int .i64)) (.int .i64)), r0⟩])  a0 := aP_laws_toKeys N.laws_toIntS G.laws_toIntS n a0
theorem said_laws_toKeys (a0 : TKeys) (g : G.laws_toKeys a0 = true) : Said Try.prog sigs_30 30 [.val (.pair (.slice 3 (.int .i64)) (.int .i64)) a0] [⟨(.pair (.slice 3 (.int .i64)) (.int .i64)), N.laws_toKeys a0⟩] := said_len (T := tab) (A := A_laws_toKeys) tabOk ok_laws_toKeys tabOk.follows Try.func30 (by kernel_rfl) (by kernel_rfl) (fun hl => ⟨0, (a_laws_toKeys 0 a0).trans (laws_toKeys_ok (ρ := Ret) (fun r0 => some [⟨(.pair (.slice 3 (.int .i64)) (.int .i64)), r0⟩]) a0 hl.1 g)⟩)
/-! laws.toHead -/
abbrev G.laws_toHead (a : THead) : Bool := decide (wH a ≤ 1048576)
abbrev N.laws_toHead (a : THead) : THead := a
def laws_toHead {ρ : Type} (k : THead → Option ρ) (a0 : THead) : Option ρ := (cond (G.laws_toKeys a0.2.2.2.2.2.2.2.2.1) (cond (G.laws_toKeys a0.2.2.2.2.2.2.2.2.2.1) (cond (G.laws_toKeys a0.2.2.2.2.2.2.2.2.2.2.2.1) (k (a0.1, (a0.2.1, (a0.2.2.1, (a0.2.2.2.1, (a0.2.2.2.2.1, (a0.2.2.2.2.2.1, (a0.2.2.2.2.2.2.1, (a0.2.2.2.2.2.2.2.1, ((N.laws_toKeys a0.2.2.2.2.2.2.2.2.1), ((N.laws_toKeys a0.2.2.2.2.2.2.2.2.2.1), (a0.2.2.2.2.2.2.2.2.2.2.1, ((N.laws_toKeys a0.2.2.2.2.2.2.2.2.2.2.2.1), a0.2.2.2.2.2.2.2.2.2.2.2.2))))))))))))) none) none) none)
theorem laws_toHead_ok {ρ : Type} (k : THead → Option ρ) (a0 : THead) (l_a0 : (True ∧ (True ∧ (True ∧ (True ∧ (True ∧ (True ∧ (True ∧ (True ∧ ((lnL (fun _ => True) a0.2.2.2.2.2.2.2.2.1.1 ∧ True) ∧ ((lnL (fun _ => True) a0.2.2.2.2.2.2.2.2.2.1.1 ∧ True) ∧ (True ∧ ((lnL (fun _ => True) a0.2.2.2.2.2.2.2.2.2.2.2.1.1 ∧ True) ∧ True))))))))))))) (g : G.laws_toHead a0 = true) : laws_toHead k  a0 = k (N.laws_toHead a0) := by
  unfold G.laws_toHead at g
  have g' : wH a0 ≤ 1048576 := by simpa using g
  unfold wH at g'
  have g1 : decide (wK a0.2.2.2.2.2.2.2.2.1 ≤ 1048576) = true := by simp; omega
  have g2 : decide (wK a0.2.2.2.2.2.2.2.2.2.1 ≤ 1048576) = true := by simp; omega
  have g3 : decide (wK a0.2.2.2.2.2.2.2.2.2.2.2.1 ≤ 1048576) = true := by simp; omega
  simp only [laws_toHead, G.laws_toKeys, g1, g2, g3, cond_true]
def OP_laws_toHead (f_laws_toKeys : TKeys → TKeys) (g_laws_toKeys : TKeys → Bool) : Orac := (orcX 30 [.val (.pair (.slice 3 (.int .i64)) (.int .i64))] (fun d => g_laws_toKeys d.1) (fun d => [⟨(.pair (.slice 3 (.int .i64)) (.int .i64)), f_laws_toKeys d.1⟩]) nilO)
def O_laws_toHead : Orac := OP_laws_toHead N.laws_toKeys G.laws_toKeys
def laws_toHead_P {ρ : Type} (f_laws_toKeys : TKeys → TKeys) (g_laws_toKeys : TKeys → Bool) (k : THead → Option ρ) (a0 : THead) : Option ρ := (cond (g_laws_toKeys a0.2.2.2.2.2.2.2.2.1) (cond (g_laws_toKeys a0.2.2.2.2.2.2.2.2.2.1) (cond (g_laws_toKeys a0.2.2.2.2.2.2.2.2.2.2.2.1) (k (a0.1, (a0.2.1, (a0.2.2.1, (a0.2.2.2.1, (a0.2.2.2.2.1, (a0.2.2.2.2.2.1, (a0.2.2.2.2.2.2.1, (a0.2.2.2.2.2.2.2.1, ((f_laws_toKeys a0.2.2.2.2.2.2.2.2.1), ((f_laws_toKeys a0.2.2.2.2.2.2.2.2.2.1), (a0.2.2.2.2.2.2.2.2.2.2.1, ((f_laws_toKeys a0.2.2.2.2.2.2.2.2.2.2.2.1), a0.2.2.2.2.2.2.2.2.2.2.2.2))))))))))))) none) none) none)
theorem ok_laws_toHead : OracOk Try.prog sigs O_laws_toHead := (orcX_ok rfl (fun d g => said_laws_toKeys d.1 g) nilO_ok)
def A_laws_toHead : Ann := fun b => ⟨[], []⟩
theorem aP_laws_toHead (f_laws_toKeys : TKeys → TKeys) (g_laws_toKeys : TKeys → Bool) (n : Nat) (a0 : THead) : absF tab sigs (OP_laws_toHead f_laws_toKeys g_laws_toKeys) A_laws_toHead Try.f11 [((.pair (.int .i64) (.pair (.int .i64) (.pair (.int .i64) (.pair (.int .i64) (.pair (.int .i64) (.pair (.int .i64) (.pair (.int .i64) (.pair (.int .i64) (.pair (.pair (.slice 3 (.int .i64)) (.int .i64)) (.pair (.pair (.slice 3 (.int .i64)) (.int .i64)) (.pair (.int .i64) (.pair (.pair (.slice 3 (.int .i64)) (.int .i64)) .bool)))))))))))), (.pair .no (.pair .no (.pair .no (.pair .no (.pair .no (.pair .no (.pair .no (.pair .no (.pair (.pair (.own 0) .no) (.pair (.pair (.own 1) .no) (.pair .no (.pair (.pair (.own 2) .no) .no)))))))))))))] n [.val (.pair (.int .i64) (.pair (.int .i64) (.pair (.int .i64) (.pair (.int .i64) (.pair (.int .i64) (.pair (.int .i64) (.pair (.int .i64) (.pair (.int .i64) (.pair (.pair (.slice 3 (.int .i64)) (.int .i64)) (.pair (.pair (.slice 3 (.int .i64)) (.int .i64)) (.pair (.int .i64) (.pair (.pair (.slice 3 (.int .i64)) (.int .i64)) .bool)))))))))))) a0] = laws_toHead_P f_laws_toKeys g_laws_toKeys (fun r0 => some [⟨(.pair (.int .i64) (.pair (.int .i64) (.pair (.int .i64) (.pair (.int .i64) (.pair (.int .i64) (.pair (.int .i64) (.pair (.int .i64) (.pair (.int .i64) (.pair (.pair (.slice 3 (.int .i64)) (.int .i64)) (.pair (.pair (.slice 3 (.int .i64)) (.int .i64)) (.pair (.int .i64) (.pair (.pair (.slice 3 (.int .i64)) (.int .i64)) .bool)))))))))))), r0⟩])  a0 := by kernel_rfl
theorem a_laws_toHead (n : Nat) (a0 : THead) : absF tab sigs O_laws_toHead A_laws_toHead Try.f11 [((.pair (.int .i64) (.pair (.int .i64) (.pair (.int .i64) (.pair (.int .i64) (.pair (.int .i64) (.pair (.int .i64) (.pair (.int .i64) (.pair (.int .i64) (.pair (.pair (.slice 3 (.int .i64)) (.int .i64)) (.pair (.pair (.slice 3 (.int .i64)) (.int .i64)) (.pair (.int .i64) (.pair (.pair (.slice 3 (.int .i64)) (.int .i64)) .bool)))))))))))), (.pair .no (.pair .no (.pair .no (.pair .no (.pair .no (.pair .no (.pair .no (.pair .no (.pair (.pair (.own 0) .no) (.pair (.pair (.own 1) .no) (.pair .no (.pair (.pair (.own 2) .no) .no)))))))))))))] n [.val (.pair (.int .i64) (.pair (.int .i64) (.pair (.int .i64) (.pair (.int .i64) (.pair (.int .i64) (.pair (.int .i64) (.pair (.int .i64) (.pair (.int .i64) (.pair (.pair (.slice 3 (.int .i64)) (.int .i64)) (.pair (.pair (.slice 3 (.int .i64)) (.int .i64)) (.pair (.int .i64) (.pair (.pair (.slice 3 (.int .i64)) (.int .i64)) .bool)))))))))))) a0] = laws_toHead (fun r0 => some [⟨(.pair (.int .i64) (.pair (.int .i64) (.pair (.int .i64) (.pair (.int .i64) (.pair (.int .i64) (.pair (.int .i64) (.pair (.int .i64) (.pair (.int .i64) (.pair (.pair (.slice 3 (.int .i64)) (.int .i64)) (.pair (.pair (.slice 3 (.int .i64)) (.int .i64)) (.pair (.int .i64) (.pair (.pair (.slice 3 (.int .i64)) (.int .i64)) .bool)))))))))))), r0⟩])  a0 := aP_laws_toHead N.laws_toKeys G.laws_toKeys n a0
theorem said_laws_toHead (a0 : THead) (g : G.laws_toHead a0 = true) : Said Try.prog sigs_11 11 [.val (.pair (.int .i64) (.pair (.int .i64) (.pair (.int .i64) (.pair (.int .i64) (.pair (.int .i64) (.pair (.int .i64) (.pair (.int .i64) (.pair (.int .i64) (.pair (.pair (.slice 3 (.int .i64)) (.int .i64)) (.pair (.pair (.slice 3 (.int .i64)) (.int .i64)) (.pair (.int .i64) (.pair (.pair (.slice 3 (.int .i64)) (.int .i64)) .bool)))))))))))) a0] [⟨(.pair (.int .i64) (.pair (.int .i64) (.pair (.int .i64) (.pair (.int .i64) (.pair (.int .i64) (.pair (.int .i64) (.pair (.int .i64) (.pair (.int .i64) (.pair (.pair (.slice 3 (.int .i64)) (.int .i64)) (.pair (.pair (.slice 3 (.int .i64)) (.int .i64)) (.pair (.int .i64) (.pair (.pair (.slice 3 (.int .i64)) (.int .i64)) .bool)))))))))))), N.laws_toHead a0⟩] := said_len (T := tab) (A := A_laws_toHead) tabOk ok_laws_toHead tabOk.follows Try.func11 (by kernel_rfl) (by kernel_rfl) (fun hl => ⟨0, (a_laws_toHead 0 a0).trans (laws_toHead_ok (ρ := Ret) (fun r0 => some [⟨(.pair (.int .i64) (.pair (.int .i64) (.pair (.int .i64) (.pair (.int .i64) (.pair (.int .i64) (.pair (.int .i64) (.pair (.int .i64) (.pair (.int .i64) (.pair (.pair (.slice 3 (.int .i64)) (.int .i64)) (.pair (.pair (.slice 3 (.int .i64)) (.int .i64)) (.pair (.int .i64) (.pair (.pair (.slice 3 (.int .i64)) (.int .i64)) .bool)))))))))))), r0⟩]) a0 hl.1 g)⟩)
/-! spec.KeysInts -/
abbrev G.spec_KeysInts (k : TKeys) : Bool := decide (wK k ≤ 1048576)
abbrev N.spec_KeysInts (k : TKeys) : List Int := keysInts k
def spec_KeysInts {ρ : Type} (k : (List Int) → Option ρ) (a0 : TKeys) : Option ρ := (cond (fit (List.length [a0.2, (List.length a0.1 : Int)]) (List.length a0.1)) (k (List.append [a0.2, (List.length a0.1 : Int)] a0.1)) none)
theorem spec_KeysInts_ok {ρ : Type} (k : (List Int) → Option ρ) (a0 : TKeys) (l_a0 : (lnL (fun _ => True) a0.1 ∧ True)) (g : G.spec_KeysInts a0 = true) : spec_KeysInts k  a0 = k (N.spec_KeysInts a0) := by
  unfold G.spec_KeysInts at g
  have h : wK a0 ≤ 1048576 := of_decide_eq_true g
  have h1 : fit (List.length [a0.2, (List.length a0.1 : Int)]) (List.length a0.1) = true := fit_of (by
    unfold wK at h
    simp
    omega)
  show cond _ _ none = _
  rw [h1]
  rfl
def O_spec_KeysInts : Orac := nilO
theorem ok_spec_KeysInts : OracOk Try.prog sigs O_spec_KeysInts := nilO_ok
def A_spec_KeysInts : Ann := fun b => ⟨[], []⟩
theorem a_spec_KeysInts (n : Nat) (a0 : TKeys) : absF tab sigs O_spec_KeysInts A_spec_KeysInts Try.f33 [((.slice 3 (.int .i64)), (.own 0))] n [.val (.pair (.slice 3 (.int .i64)) (.int .i64)) a0] = spec_KeysInts (fun r0 => some [⟨(.slice 3 (.int .i64)), r0⟩])  a0 := by kernel_rfl
theorem said_spec_KeysInts (a0 : TKeys) (g : G.spec_KeysInts a0 = true) : Said Try.prog sigs_33 33 [.val (.pair (.slice 3 (.int .i64)) (.int .i64)) a0] [⟨(.slice 3 (.int .i64)), N.spec_KeysInts a0⟩] := said_len (T := tab) (A := A_spec_KeysInts) tabOk ok_spec_KeysInts tabOk.follows Try.func33 (by kernel_rfl) (by kernel_rfl) (fun hl => ⟨0, (a_spec_KeysInts 0 a0).trans (spec_KeysInts_ok (ρ := Ret) (fun r0 => some [⟨(.slice 3 (.int .i64)), r0⟩]) a0 hl.1 g)⟩)
/-! spec.HeadInts -/
abbrev G.spec_HeadInts (h : THead) : Bool := decide (wH h ≤ 1048576)
abbrev N.spec_HeadInts (h : THead) : List Int := headInts h
def spec_HeadInts {ρ : Type} (k : (List Int) → Option ρ) (a0 : THead) : Option ρ := (cond (G.spec_KeysInts a0.2.2.2.2.2.2.2.2.1) (cond (fit (List.length [a0.1, a0.2.1, a0.2.2.1, a0.2.2.2.1, a0.2.2.2.2.1, a0.2.2.2.2.2.1, a0.2.2.2.2.2.2.1, a0.2.2.2.2.2.2.2.1]) (List.length (N.spec_KeysInts a0.2.2.2.2.2.2.2.2.1))) (cond (G.spec_KeysInts a0.2.2.2.2.2.2.2.2.2.1) (cond (fit (List.length (List.append [a0.1, a0.2.1, a0.2.2.1, a0.2.2.2.1, a0.2.2.2.2.1, a0.2.2.2.2.2.1, a0.2.2.2.2.2.2.1, a0.2.2.2.2.2.2.2.1] (N.spec_KeysInts a0.2.2.2.2.2.2.2.2.1))) (List.length (N.spec_KeysInts a0.2.2.2.2.2.2.2.2.2.1))) (cond (fit (List.length (List.append (List.append [a0.1, a0.2.1, a0.2.2.1, a0.2.2.2.1, a0.2.2.2.2.1, a0.2.2.2.2.2.1, a0.2.2.2.2.2.2.1, a0.2.2.2.2.2.2.2.1] (N.spec_KeysInts a0.2.2.2.2.2.2.2.2.1)) (N.spec_KeysInts a0.2.2.2.2.2.2.2.2.2.1))) (List.length [a0.2.2.2.2.2.2.2.2.2.2.1])) (cond (G.spec_KeysInts a0.2.2.2.2.2.2.2.2.2.2.2.1) (cond (fit (List.length (List.append (List.append (List.append [a0.1, a0.2.1, a0.2.2.1, a0.2.2.2.1, a0.2.2.2.2.1, a0.2.2.2.2.2.1, a0.2.2.2.2.2.2.1, a0.2.2.2.2.2.2.2.1] (N.spec_KeysInts a0.2.2.2.2.2.2.2.2.1)) (N.spec_KeysInts a0.2.2.2.2.2.2.2.2.2.1)) [a0.2.2.2.2.2.2.2.2.2.2.1])) (List.length (N.spec_KeysInts a0.2.2.2.2.2.2.2.2.2.2.2.1))) (cond a0.2.2.2.2.2.2.2.2.2.2.2.2 (cond (fit (List.length (List.append (List.append (List.append (List.append [a0.1, a0.2.1, a0.2.2.1, a0.2.2.2.1, a0.2.2.2.2.1, a0.2.2.2.2.2.1, a0.2.2.2.2.2.2.1, a0.2.2.2.2.2.2.2.1] (N.spec_KeysInts a0.2.2.2.2.2.2.2.2.1)) (N.spec_KeysInts a0.2.2.2.2.2.2.2.2.2.1)) [a0.2.2.2.2.2.2.2.2.2.2.1]) (N.spec_KeysInts a0.2.2.2.2.2.2.2.2.2.2.2.1))) (List.length [(1 : Int)])) (k (List.append (List.append (List.append (List.append (List.append [a0.1, a0.2.1, a0.2.2.1, a0.2.2.2.1, a0.2.2.2.2.1, a0.2.2.2.2.2.1, a0.2.2.2.2.2.2.1, a0.2.2.2.2.2.2.2.1] (N.spec_KeysInts a0.2.2.2.2.2.2.2.2.1)) (N.spec_KeysInts a0.2.2.2.2.2.2.2.2.2.1)) [a0.2.2.2.2.2.2.2.2.2.2.1]) (N.spec_KeysInts a0.2.2.2.2.2.2.2.2.2.2.2.1)) [(1 : Int)])) none) (cond (fit (List.length (List.append (List.append (List.append (List.append [a0.1, a0.2.1, a0.2.2.1, a0.2.2.2.1, a0.2.2.2.2.1, a0.2.2.2.2.2.1, a0.2.2.2.2.2.2.1, a0.2.2.2.2.2.2.2.1] (N.spec_KeysInts a0.2.2.2.2.2.2.2.2.1)) (N.spec_KeysInts a0.2.2.2.2.2.2.2.2.2.1)) [a0.2.2.2.2.2.2.2.2.2.2.1]) (N.spec_KeysInts a0.2.2.2.2.2.2.2.2.2.2.2.1))) (List.length [(0 : Int)])) (k (List.append (List.append (List.append (List.append (List.append [a0.1, a0.2.1, a0.2.2.1, a0.2.2.2.1, a0.2.2.2.2.1, a0.2.2.2.2.2.1, a0.2.2.2.2.2.2.1, a0.2.2.2.2.2.2.2.1] (N.spec_KeysInts a0.2.2.2.2.2.2.2.2.1)) (N.spec_KeysInts a0.2.2.2.2.2.2.2.2.2.1)) [a0.2.2.2.2.2.2.2.2.2.2.1]) (N.spec_KeysInts a0.2.2.2.2.2.2.2.2.2.2.2.1)) [(0 : Int)])) none)) none) none) none) none) none) none) none)
theorem spec_HeadInts_ok {ρ : Type} (k : (List Int) → Option ρ) (a0 : THead) (l_a0 : (True ∧ (True ∧ (True ∧ (True ∧ (True ∧ (True ∧ (True ∧ (True ∧ ((lnL (fun _ => True) a0.2.2.2.2.2.2.2.2.1.1 ∧ True) ∧ ((lnL (fun _ => True) a0.2.2.2.2.2.2.2.2.2.1.1 ∧ True) ∧ (True ∧ ((lnL (fun _ => True) a0.2.2.2.2.2.2.2.2.2.2.2.1.1 ∧ True) ∧ True))))))))))))) (g : G.spec_HeadInts a0 = true) : spec_HeadInts k  a0 = k (N.spec_HeadInts a0) := by
  unfold G.spec_HeadInts at g
  have hw : wH a0 ≤ 1048576 := of_decide_eq_true g
  unfold wH at hw
  have g1 : decide (wK a0.2.2.2.2.2.2.2.2.1 ≤ 1048576) = true := decide_eq_true (by omega)
  have g2 : decide (wK a0.2.2.2.2.2.2.2.2.2.1 ≤ 1048576) = true := decide_eq_true (by omega)
  have g3 : decide (wK a0.2.2.2.2.2.2.2.2.2.2.2.1 ≤ 1048576) = true := decide_eq_true (by omega)
  have ft : ∀ n m : Nat, n ≤ 4194304 → m ≤ 4194304 → fit n m = true := fun n m h1 h2 => fit_of (by omega)
  simp only [spec_HeadInts, G.spec_KeysInts, N.spec_KeysInts, g1, g2, g3, cond_true, N.spec_HeadInts, headInts, List.append_eq]
  rw [ft _ _ (by simp) (by rw [keysInts_len]; omega)]
  rw [ft _ _ (by simp [keysInts_len]; omega) (by rw [keysInts_len]; omega)]
  rw [ft _ _ (by simp [keysInts_len]; omega) (by simp)]
  rw [ft _ _ (by simp [keysInts_len]; omega) (by rw [keysInts_len]; omega)]
  cases a0.2.2.2.2.2.2.2.2.2.2.2.2
  · simp only [cond_true, cond_false]
    rw [ft _ _ (by simp [keysInts_len]; omega) (by simp)]
    simp [bitOf]
  · simp only [cond_true, cond_false]
    rw [ft _ _ (by simp [keysInts_len]; omega) (by simp)]
    simp [bitOf]
def OP_spec_HeadInts (f_spec_KeysInts : TKeys → (List Int)) (g_spec_KeysInts : TKeys → Bool) : Orac := (orcX 33 [.val (.pair (.slice 3 (.int .i64)) (.int .i64))] (fun d => g_spec_KeysInts d.1) (fun d => [⟨(.slice 3 (.int .i64)), f_spec_KeysInts d.1⟩]) nilO)
def O_spec_HeadInts : Orac := OP_spec_HeadInts N.spec_KeysInts G.spec_KeysInts
def spec_HeadInts_P {ρ : Type} (f_spec_KeysInts : TKeys → (List Int)) (g_spec_KeysInts : TKeys → Bool) (k : (List Int) → Option ρ) (a0 : THead) : Option ρ := (cond (g_spec_KeysInts a0.2.2.2.2.2.2.2.2.1) (cond (fit (List.length [a0.1, a0.2.1, a0.2.2.1, a0.2.2.2.1, a0.2.2.2.2.1, a0.2.2.2.2.2.1, a0.2.2.2.2.2.2.1, a0.2.2.2.2.2.2.2.1]) (List.length (f_spec_KeysInts a0.2.2.2.2.2.2.2.2.1))) (cond (g_spec_KeysInts a0.2.2.2.2.2.2.2.2.2.1) (cond (fit (List.length (List.append [a0.1, a0.2.1, a0.2.2.1, a0.2.2.2.1, a0.2.2.2.2.1, a0.2.2.2.2.2.1, a0.2.2.2.2.2.2.1, a0.2.2.2.2.2.2.2.1] (f_spec_KeysInts a0.2.2.2.2.2.2.2.2.1))) (List.length (f_spec_KeysInts a0.2.2.2.2.2.2.2.2.2.1))) (cond (fit (List.length (List.append (List.append [a0.1, a0.2.1, a0.2.2.1, a0.2.2.2.1, a0.2.2.2.2.1, a0.2.2.2.2.2.1, a0.2.2.2.2.2.2.1, a0.2.2.2.2.2.2.2.1] (f_spec_KeysInts a0.2.2.2.2.2.2.2.2.1)) (f_spec_KeysInts a0.2.2.2.2.2.2.2.2.2.1))) (List.length [a0.2.2.2.2.2.2.2.2.2.2.1])) (cond (g_spec_KeysInts a0.2.2.2.2.2.2.2.2.2.2.2.1) (cond (fit (List.length (List.append (List.append (List.append [a0.1, a0.2.1, a0.2.2.1, a0.2.2.2.1, a0.2.2.2.2.1, a0.2.2.2.2.2.1, a0.2.2.2.2.2.2.1, a0.2.2.2.2.2.2.2.1] (f_spec_KeysInts a0.2.2.2.2.2.2.2.2.1)) (f_spec_KeysInts a0.2.2.2.2.2.2.2.2.2.1)) [a0.2.2.2.2.2.2.2.2.2.2.1])) (List.length (f_spec_KeysInts a0.2.2.2.2.2.2.2.2.2.2.2.1))) (cond a0.2.2.2.2.2.2.2.2.2.2.2.2 (cond (fit (List.length (List.append (List.append (List.append (List.append [a0.1, a0.2.1, a0.2.2.1, a0.2.2.2.1, a0.2.2.2.2.1, a0.2.2.2.2.2.1, a0.2.2.2.2.2.2.1, a0.2.2.2.2.2.2.2.1] (f_spec_KeysInts a0.2.2.2.2.2.2.2.2.1)) (f_spec_KeysInts a0.2.2.2.2.2.2.2.2.2.1)) [a0.2.2.2.2.2.2.2.2.2.2.1]) (f_spec_KeysInts a0.2.2.2.2.2.2.2.2.2.2.2.1))) (List.length [(1 : Int)])) (k (List.append (List.append (List.append (List.append (List.append [a0.1, a0.2.1, a0.2.2.1, a0.2.2.2.1, a0.2.2.2.2.1, a0.2.2.2.2.2.1, a0.2.2.2.2.2.2.1, a0.2.2.2.2.2.2.2.1] (f_spec_KeysInts a0.2.2.2.2.2.2.2.2.1)) (f_spec_KeysInts a0.2.2.2.2.2.2.2.2.2.1)) [a0.2.2.2.2.2.2.2.2.2.2.1]) (f_spec_KeysInts a0.2.2.2.2.2.2.2.2.2.2.2.1)) [(1 : Int)])) none) (cond (fit (List.length (List.append (List.append (List.append (List.append [a0.1, a0.2.1, a0.2.2.1, a0.2.2.2.1, a0.2.2.2.2.1, a0.2.2.2.2.2.1, a0.2.2.2.2.2.2.1, a0.2.2.2.2.2.2.2.1] (f_spec_KeysInts a0.2.2.2.2.2.2.2.2.1)) (f_spec_KeysInts a0.2.2.2.2.2.2.2.2.2.1)) [a0.2.2.2.2.2.2.2.2.2.2.1]) (f_spec_KeysInts a0.2.2.2.2.2.2.2.2.2.2.2.1))) (List.length [(0 : Int)])) (k (List.append (List.append (List.append (List.append (List.append [a0.1, a0.2.1, a0.2.2.1, a0.2.2.2.1, a0.2.2.2.2.1, a0.2.2.2.2.2.1, a0.2.2.2.2.2.2.1, a0.2.2.2.2.2.2.2.1] (f_spec_KeysInts a0.2.2.2.2.2.2.2.2.1)) (f_spec_KeysInts a0.2.2.2.2.2.2.2.2.2.1)) [a0.2.2.2.2.2.2.2.2.2.2.1]) (f_spec_KeysInts a0.2.2.2.2.2.2.2.2.2.2.2.1)) [(0 : Int)])) none)) none) none) none) none) none) none) none)
theorem ok_spec_HeadInts : OracOk Try.prog sigs O_spec_HeadInts := (orcX_ok rfl (fun d g => said_spec_KeysInts d.1 g) nilO_ok)
def A_spec_HeadInts : Ann := fun b => ⟨[], []⟩
theorem aP_spec_HeadInts (f_spec_KeysInts : TKeys → (List Int)) (g_spec_KeysInts : TKeys → Bool) (n : Nat) (a0 : THead) : absF tab sigs (OP_spec_HeadInts f_spec_KeysInts g_spec_KeysInts) A_spec_HeadInts Try.f14 [((.slice 3 (.int .i64)), (.own 0))] n [.val (.pair (.int .i64) (.pair (.int .i64) (.pair (.int .i64) (.pair (.int .i64) (.pair (.int .i64) (.pair (.int .i64) (.pair (.int .i64) (.pair (.int .i64) (.pair (.pair (.slice 3 (.int .i64)) (.int .i64)) (.pair (.pair (.slice 3 (.int .i64)) (.int .i64)) (.pair (.int .i64) (.pair (.pair (.slice 3 (.int .i64)) (.int .i64)) .bool)))))))))))) a0] = spec_HeadInts_P f_spec_KeysInts g_spec_KeysInts (fun r0 => some [⟨(.slice 3 (.int .i64)), r0⟩])  a0 := by kernel_rfl
theorem a_spec_HeadInts (n : Nat) (a0 : THead) : absF tab sigs O_spec_HeadInts A_spec_HeadInts Try.f14 [((.slice 3 (.int .i64)), (.own 0))] n [.val (.pair (.int .i64) (.pair (.int .i64) (.pair (.int .i64) (.pair (.int .i64) (.pair (.int .i64) (.pair (.int .i64) (.pair (.int .i64) (.pair (.int .i64) (.pair (.pair (.slice 3 (.int .i64)) (.int .i64)) (.pair (.pair (.slice 3 (.int .i64)) (.int .i64)) (.pair (.int .i64) (.pair (.pair (.slice 3 (.int .i64)) (.int .i64)) .bool)))))))))))) a0] = spec_HeadInts (fun r0 => some [⟨(.slice 3 (.int .i64)), r0⟩])  a0 := aP_spec_HeadInts N.spec_KeysInts G.spec_KeysInts n a0
theorem said_spec_HeadInts (a0 : THead) (g : G.spec_HeadInts a0 = true) : Said Try.prog sigs_14 14 [.val (.pair (.int .i64) (.pair (.int .i64) (.pair (.int .i64) (.pair (.int .i64) (.pair (.int .i64) (.pair (.int .i64) (.pair (.int .i64) (.pair (.int .i64) (.pair (.pair (.slice 3 (.int .i64)) (.int .i64)) (.pair (.pair (.slice 3 (.int .i64)) (.int .i64)) (.pair (.int .i64) (.pair (.pair (.slice 3 (.int .i64)) (.int .i64)) .bool)))))))))))) a0] [⟨(.slice 3 (.int .i64)), N.spec_HeadInts a0⟩] := said_len (T := tab) (A := A_spec_HeadInts) tabOk ok_spec_HeadInts tabOk.follows Try.func14 (by kernel_rfl) (by kernel_rfl) (fun hl => ⟨0, (a_spec_HeadInts 0 a0).trans (spec_HeadInts_ok (ρ := Ret) (fun r0 => some [⟨(.slice 3 (.int .i64)), r0⟩]) a0 hl.1 g)⟩)
/-! spec.l1In -/
abbrev N.spec_l1In (n lo hi : Int) : Bool := inR n lo hi
def spec_l1In {ρ : Type} (k : Bool → Option ρ) (a0 : Int) (a1 : Int) (a2 : Int) : Option ρ := (cond (decide (a0 ≥ a1)) (k (decide (a0 ≤ a2))) (k false))
theorem spec_l1In_ok {ρ : Type} (k : Bool → Option ρ) (a0 : Int) (a1 : Int) (a2 : Int) : spec_l1In k  a0 a1 a2 = k (N.spec_l1In a0 a1 a2) := by
  simp only [spec_l1In, inR, ge_iff_le]
  cases decide (a1 ≤ a0) <;> rfl
def O_spec_l1In : Orac := nilO
theorem ok_spec_l1In : OracOk Try.prog sigs O_spec_l1In := nilO_ok
def A_spec_l1In : Ann := fun b => ⟨[], []⟩
theorem a_spec_l1In (n : Nat) (a0 : Int) (a1 : Int) (a2 : Int) : absF tab sigs O_spec_l1In A_spec_l1In Try.f29 [(.bool, .no)] n [.val (.int .i64) a0, .val (.int .i64) a1, .val (.int .i64) a2] = spec_l1In (fun r0 => some [⟨.bool, r0⟩])  a0 a1 a2 := by kernel_rfl
theorem said_spec_l1In (a0 : Int) (a1 : Int) (a2 : Int) : Said Try.prog sigs_29 29 [.val (.int .i64) a0, .val (.int .i64) a1, .val (.int .i64) a2] [⟨.bool, N.spec_l1In a0 a1 a2⟩] := said_len (T := tab) (A := A_spec_l1In) tabOk ok_spec_l1In tabOk.follows Try.func29 (by kernel_rfl) (by kernel_rfl) (fun hl => ⟨0, (a_spec_l1In 0 a0 a1 a2).trans (spec_l1In_ok (ρ := Ret) (fun r0 => some [⟨.bool, r0⟩]) a0 a1 a2)⟩)
/-! spec.Mod -/
abbrev N.spec_Mod (n m : Int) : Int := modM n m
def spec_Mod {ρ : Type} (k : Int → Option ρ) (a0 : Int) (a1 : Int) : Option ρ := (cond (!(N.spec_l1In a1 (1 : Int) (1000000000000 : Int))) (k (0 : Int)) (cond (!(decide (a1 = 0))) (cond (!(decide (a1 = 0))) (k (Int.tmod (IntKind.wrap .i64 ((Int.tmod a0 a1) + a1)) a1)) none) none))
theorem spec_Mod_ok {ρ : Type} (k : Int → Option ρ) (a0 : Int) (a1 : Int) : spec_Mod k  a0 a1 = k (N.spec_Mod a0 a1) := by
  simp only [spec_Mod, N.spec_l1In, modM]
  cases h : inR a1 1 1000000000000
  · rfl
  · have h1 : 1 ≤ a1 := by
      unfold inR at h
      simp only [Bool.and_eq_true, decide_eq_true_eq] at h
      exact h.1
    have h2 : decide (a1 = 0) = false := by simp; omega
    simp [h2]
def OP_spec_Mod (f_spec_l1In : Int → Int → Int → Bool) : Orac := (orcX 29 [.val (.int .i64), .val (.int .i64), .val (.int .i64)] (fun d => true) (fun d => [⟨.bool, f_spec_l1In d.1 d.2.1 d.2.2.1⟩]) nilO)
def O_spec_Mod : Orac := OP_spec_Mod N.spec_l1In
def spec_Mod_P {ρ : Type} (f_spec_l1In : Int → Int → Int → Bool) (k : Int → Option ρ) (a0 : Int) (a1 : Int) : Option ρ := (cond (!(f_spec_l1In a1 (1 : Int) (1000000000000 : Int))) (k (0 : Int)) (cond (!(decide (a1 = 0))) (cond (!(decide (a1 = 0))) (k (Int.tmod (IntKind.wrap .i64 ((Int.tmod a0 a1) + a1)) a1)) none) none))
theorem ok_spec_Mod : OracOk Try.prog sigs O_spec_Mod := (orcX_ok rfl (fun d g => said_spec_l1In d.1 d.2.1 d.2.2.1) nilO_ok)
def A_spec_Mod : Ann := fun b => ⟨[], []⟩
theorem aP_spec_Mod (f_spec_l1In : Int → Int → Int → Bool) (n : Nat) (a0 : Int) (a1 : Int) : absF tab sigs (OP_spec_Mod f_spec_l1In) A_spec_Mod Try.f54 [((.int .i64), .no)] n [.val (.int .i64) a0, .val (.int .i64) a1] = spec_Mod_P f_spec_l1In (fun r0 => some [⟨(.int .i64), r0⟩])  a0 a1 := by kernel_rfl
theorem a_spec_Mod (n : Nat) (a0 : Int) (a1 : Int) : absF tab sigs O_spec_Mod A_spec_Mod Try.f54 [((.int .i64), .no)] n [.val (.int .i64) a0, .val (.int .i64) a1] = spec_Mod (fun r0 => some [⟨(.int .i64), r0⟩])  a0 a1 := aP_spec_Mod N.spec_l1In n a0 a1
theorem said_spec_Mod (a0 : Int) (a1 : Int) : Said Try.prog sigs_54 54 [.val (.int .i64) a0, .val (.int .i64) a1] [⟨(.int .i64), N.spec_Mod a0 a1⟩] := said_len (T := tab) (A := A_spec_Mod) tabOk ok_spec_Mod tabOk.follows Try.func54 (by kernel_rfl) (by kernel_rfl) (fun hl => ⟨0, (a_spec_Mod 0 a0 a1).trans (spec_Mod_ok (ρ := Ret) (fun r0 => some [⟨(.int .i64), r0⟩]) a0 a1)⟩)
/-! spec.Hash -/
abbrev N.spec_Hash (l : List Int) : Int := hash l
def spec_Hash_L0 {ρ : Type} (k : Int → Option ρ) (L0 : (List Int) → Int → Int → Option ρ) (v0_0 : (List Int)) (v0_1 : Int) (v0_2 : Int) : Option ρ := (cond (decide (v0_2 < (List.length v0_0 : Int))) (cond (inRange v0_2 (List.length v0_0)) (L0 v0_0 (Int.tmod (IntKind.wrap .i64 ((IntKind.wrap .i64 ((IntKind.wrap .i64 (v0_1 * (1000003 : Int))) + (N.spec_Mod (List.getD v0_0 (Int.toNat v0_2) (0 : Int)) (2147483647 : Int)))) + (13 : Int))) (2147483647 : Int)) (IntKind.wrap .i64 (v0_2 + (1 : Int)))) none) (k v0_1))
def spec_Hash {ρ : Type} (k : Int → Option ρ) (L0 : (List Int) → Int → Int → Option ρ) (a0 : (List Int)) : Option ρ := (L0 a0 (11 : Int) (0 : Int))
theorem spec_Hash_ok {ρ : Type} (k : Int → Option ρ) (a0 : (List Int)) (l_a0 : lnL (fun _ => True) a0) : ∃ n0, ∀ n, n0 ≤ n → ∀ (L0 : Nat → (List Int) → Int → Int → Option ρ) (h0 : ∀ ( m : Nat) (v0_0 : (List Int)) (v0_1 : Int) (v0_2 : Int), L0 (m + 1) v0_0 v0_1 v0_2 = spec_Hash_L0 k (L0 m) v0_0 v0_1 v0_2), spec_Hash k (L0 n) a0 = k (N.spec_Hash a0) := by
  refine ⟨a0.length + 1, fun n hn L0 h0 => ?_⟩
  refine raw_foldl (a := a0) 0 hashStep (k := k) (L := fun m i s => L0 m a0 s i) (R := fun i s c => spec_Hash_L0 k (fun _ s i => c i s) a0 s i) (fun m i s => h0 m a0 s i) (fun _ _ => True) (fun j s c hj _ => ?_) (fun _ _ _ _ => trivial) (fun s c => ?_) hn trivial
  · have : j < big := by have := l_a0.1; omega
    simp [spec_Hash_L0, lt_nat, inRange_nat, hj, wrap_succ this, hashStep]
  · simp [spec_Hash_L0]
def OP_spec_Hash (f_spec_Mod : Int → Int → Int) : Orac := (orcX 54 [.val (.int .i64), .val (.int .i64)] (fun d => true) (fun d => [⟨(.int .i64), f_spec_Mod d.1 d.2.1⟩]) nilO)
def O_spec_Hash : Orac := OP_spec_Hash N.spec_Mod
def spec_Hash_P_L0 {ρ : Type} (f_spec_Mod : Int → Int → Int) (k : Int → Option ρ) (L0 : (List Int) → Int → Int → Option ρ) (v0_0 : (List Int)) (v0_1 : Int) (v0_2 : Int) : Option ρ := (cond (decide (v0_2 < (List.length v0_0 : Int))) (cond (inRange v0_2 (List.length v0_0)) (L0 v0_0 (Int.tmod (IntKind.wrap .i64 ((IntKind.wrap .i64 ((IntKind.wrap .i64 (v0_1 * (1000003 : Int))) + (f_spec_Mod (List.getD v0_0 (Int.toNat v0_2) (0 : Int)) (2147483647 : Int)))) + (13 : Int))) (2147483647 : Int)) (IntKind.wrap .i64 (v0_2 + (1 : Int)))) none) (k v0_1))
def spec_Hash_P {ρ : Type} (f_spec_Mod : Int → Int → Int) (k : Int → Option ρ) (L0 : (List Int) → Int → Int → Option ρ) (a0 : (List Int)) : Option ρ := (L0 a0 (11 : Int) (0 : Int))
theorem ok_spec_Hash : OracOk Try.prog sigs O_spec_Hash := (orcX_ok rfl (fun d g => said_spec_Mod d.1 d.2.1) nilO_ok)
def A_spec_Hash : Ann := fun b => cond (Nat.beq b 0) ⟨[(0, false), (3, false), (4, false)], []⟩ (⟨[], []⟩)
def S_spec_Hash_0 (v0_0 : (List Int)) (v0_1 : Int) (v0_2 : Int) : St := [(kT 0, some (.tv (.v (.slice 3 (.int .i64)) v0_0 .no))), (kT 3, some (.tv (.v (.int .i64) v0_1 .no))), (kT 4, some (.tv (.v (.int .i64) v0_2 .no)))]
noncomputable def L_P_spec_Hash_0 (f_spec_Mod : Int → Int → Int) (n m : Nat) : St → Option Ret := loopOf tab sigs (OP_spec_Hash f_spec_Mod) A_spec_Hash Try.f38 [((.int .i64), .no)] n (fun _ => 0) 0 m
noncomputable def L_spec_Hash_0 (n m : Nat) : St → Option Ret := L_P_spec_Hash_0 N.spec_Mod n m
theorem bP_spec_Hash_0 (f_spec_Mod : Int → Int → Int) (n m : Nat) (v0_0 : (List Int)) (v0_1 : Int) (v0_2 : Int) : L_P_spec_Hash_0 f_spec_Mod n (m + 1) (S_spec_Hash_0 v0_0 v0_1 v0_2) = spec_Hash_P_L0 f_spec_Mod (fun r0 => some [⟨(.int .i64), r0⟩]) (fun v0_0 v0_1 v0_2 => L_P_spec_Hash_0 f_spec_Mod n m (S_spec_Hash_0 v0_0 v0_1 v0_2)) v0_0 v0_1 v0_2 := by kernel_rfl
theorem b_spec_Hash_0 (n m : Nat) (v0_0 : (List Int)) (v0_1 : Int) (v0_2 : Int) : L_spec_Hash_0 n (m + 1) (S_spec_Hash_0 v0_0 v0_1 v0_2) = spec_Hash_L0 (fun r0 => some [⟨(.int .i64), r0⟩]) (fun v0_0 v0_1 v0_2 => L_spec_Hash_0 n m (S_spec_Hash_0 v0_0 v0_1 v0_2)) v0_0 v0_1 v0_2 := bP_spec_Hash_0 N.spec_Mod n m v0_0 v0_1 v0_2
theorem aP_spec_Hash (f_spec_Mod : Int → Int → Int) (n : Nat) (a0 : (List Int)) : absF tab sigs (OP_spec_Hash f_spec_Mod) A_spec_Hash Try.f38 [((.int .i64), .no)] n [.val (.slice 3 (.int .i64)) a0] = spec_Hash_P f_spec_Mod (fun r0 => some [⟨(.int .i64), r0⟩]) (fun v0_0 v0_1 v0_2 => L_P_spec_Hash_0 f_spec_Mod n n (S_spec_Hash_0 v0_0 v0_1 v0_2)) a0 := by kernel_rfl
theorem a_spec_Hash (n : Nat) (a0 : (List Int)) : absF tab sigs O_spec_Hash A_spec_Hash Try.f38 [((.int .i64), .no)] n [.val (.slice 3 (.int .i64)) a0] = spec_Hash (fun r0 => some [⟨(.int .i64), r0⟩]) (fun v0_0 v0_1 v0_2 => L_spec_Hash_0 n n (S_spec_Hash_0 v0_0 v0_1 v0_2)) a0 := aP_spec_Hash N.spec_Mod n a0
theorem said_spec_Hash (a0 : (List Int)) : Said Try.prog sigs_38 38 [.val (.slice 3 (.int .i64)) a0] [⟨(.int .i64), N.spec_Hash a0⟩] := said_len (T := tab) (A := A_spec_Hash) tabOk ok_spec_Hash tabOk.follows Try.func38 (by kernel_rfl) (by kernel_rfl) (fun hl => let ⟨n, hn⟩ := spec_Hash_ok (ρ := Ret) (fun r0 => some [⟨(.int .i64), r0⟩]) a0 hl.1; ⟨n, (a_spec_Hash n a0).trans (hn n (Nat.le_refl n) (fun  m v0_0 v0_1 v0_2 => L_spec_Hash_0 n  m (S_spec_Hash_0 v0_0 v0_1 v0_2)) (fun  m v0_0 v0_1 v0_2 => b_spec_Hash_0 n  m v0_0 v0_1 v0_2))⟩)
/-! spec.HeadDigest -/
abbrev G.spec_HeadDigest (h : THead) : Bool := decide (wH h ≤ 1048576)
abbrev N.spec_HeadDigest (h : THead) : Int := headDigest h
def spec_HeadDigest {ρ : Type} (k : Int → Option ρ) (a0 : THead) : Option ρ := (cond (G.spec_HeadInts a0) (cond (fit (List.length [(233 : Int)]) (List.length (N.spec_HeadInts a0))) (k (N.spec_Hash (List.append [(233 : Int)] (N.spec_HeadInts a0)))) none) none)
theorem spec_HeadDigest_ok {ρ : Type} (k : Int → Option ρ) (a0 : THead) (l_a0 : (True ∧ (True ∧ (True ∧ (True ∧ (True ∧ (True ∧ (True ∧ (True ∧ ((lnL (fun _ => True) a0.2.2.2.2.2.2.2.2.1.1 ∧ True) ∧ ((lnL (fun _ => True) a0.2.2.2.2.2.2.2.2.2.1.1 ∧ True) ∧ (True ∧ ((lnL (fun _ => True) a0.2.2.2.2.2.2.2.2.2.2.2.1.1 ∧ True) ∧ True))))))))))))) (g : G.spec_HeadDigest a0 = true) : spec_HeadDigest k  a0 = k (N.spec_HeadDigest a0) := by
  unfold G.spec_HeadDigest at g
  have hw : wH a0 ≤ 1048576 := of_decide_eq_true g
  have f1 : fit 1 (headInts a0).length = true := fit_of (by rw [headInts_len]; omega)
  show cond (decide (wH a0 ≤ 1048576)) (cond (fit 1 (headInts a0).length) _ none) none = _
  rw [g, f1]
  rfl
def OP_spec_HeadDigest (f_spec_HeadInts : THead → (List Int)) (g_spec_HeadInts : THead → Bool) (f_spec_Hash : (List Int) → Int) : Orac := (orcX 38 [.val (.slice 3 (.int .i64))] (fun d => true) (fun d => [⟨(.int .i64), f_spec_Hash d.1⟩]) (orcX 14 [.val (.pair (.int .i64) (.pair (.int .i64) (.pair (.int .i64) (.pair (.int .i64) (.pair (.int .i64) (.pair (.int .i64) (.pair (.int .i64) (.pair (.int .i64) (.pair (.pair (.slice 3 (.int .i64)) (.int .i64)) (.pair (.pair (.slice 3 (.int .i64)) (.int .i64)) (.pair (.int .i64) (.pair (.pair (.slice 3 (.int .i64)) (.int .i64)) .bool))))))))))))] (fun d => g_spec_HeadInts d.1) (fun d => [⟨(.slice 3 (.int .i64)), f_spec_HeadInts d.1⟩]) nilO))
def O_spec_HeadDigest : Orac := OP_spec_HeadDigest N.spec_HeadInts G.spec_HeadInts N.spec_Hash
def spec_HeadDigest_P {ρ : Type} (f_spec_HeadInts : THead → (List Int)) (g_spec_HeadInts : THead → Bool) (f_spec_Hash : (List Int) → Int) (k : Int → Option ρ) (a0 : THead) : Option ρ := (cond (g_spec_HeadInts a0) (cond (fit (List.length [(233 : Int)]) (List.length (f_spec_HeadInts a0))) (k (f_spec_Hash (List.append [(233 : Int)] (f_spec_HeadInts a0)))) none) none)
theorem ok_spec_HeadDigest : OracOk Try.prog sigs O_spec_HeadDigest := (orcX_ok rfl (fun d g => said_spec_Hash d.1) (orcX_ok rfl (fun d g => said_spec_HeadInts d.1 g) nilO_ok))
def A_spec_HeadDigest : Ann := fun b => ⟨[], []⟩
theorem aP_spec_HeadDigest (f_spec_HeadInts : THead → (List Int)) (g_spec_HeadInts : THead → Bool) (f_spec_Hash : (List Int) → Int) (n : Nat) (a0 : THead) : absF tab sigs (OP_spec_HeadDigest f_spec_HeadInts g_spec_HeadInts f_spec_Hash) A_spec_HeadDigest Try.f20 [((.int .i64), .no)] n [.val (.pair (.int .i64) (.pair (.int .i64) (.pair (.int .i64) (.pair (.int .i64) (.pair (.int .i64) (.pair (.int .i64) (.pair (.int .i64) (.pair (.int .i64) (.pair (.pair (.slice 3 (.int .i64)) (.int .i64)) (.pair (.pair (.slice 3 (.int .i64)) (.int .i64)) (.pair (.int .i64) (.pair (.pair (.slice 3 (.int .i64)) (.int .i64)) .bool)))))))))))) a0] = spec_HeadDigest_P f_spec_HeadInts g_spec_HeadInts f_spec_Hash (fun r0 => some [⟨(.int .i64), r0⟩])  a0 := by kernel_rfl
theorem a_spec_HeadDigest (n : Nat) (a0 : THead) : absF tab sigs O_spec_HeadDigest A_spec_HeadDigest Try.f20 [((.int .i64), .no)] n [.val (.pair (.int .i64) (.pair (.int .i64) (.pair (.int .i64) (.pair (.int .i64) (.pair (.int .i64) (.pair (.int .i64) (.pair (.int .i64) (.pair (.int .i64) (.pair (.pair (.slice 3 (.int .i64)) (.int .i64)) (.pair (.pair (.slice 3 (.int .i64)) (.int .i64)) (.pair (.int .i64) (.pair (.pair (.slice 3 (.int .i64)) (.int .i64)) .bool)))))))))))) a0] = spec_HeadDigest (fun r0 => some [⟨(.int .i64), r0⟩])  a0 := aP_spec_HeadDigest N.spec_HeadInts G.spec_HeadInts N.spec_Hash n a0
theorem said_spec_HeadDigest (a0 : THead) (g : G.spec_HeadDigest a0 = true) : Said Try.prog sigs_20 20 [.val (.pair (.int .i64) (.pair (.int .i64) (.pair (.int .i64) (.pair (.int .i64) (.pair (.int .i64) (.pair (.int .i64) (.pair (.int .i64) (.pair (.int .i64) (.pair (.pair (.slice 3 (.int .i64)) (.int .i64)) (.pair (.pair (.slice 3 (.int .i64)) (.int .i64)) (.pair (.int .i64) (.pair (.pair (.slice 3 (.int .i64)) (.int .i64)) .bool)))))))))))) a0] [⟨(.int .i64), N.spec_HeadDigest a0⟩] := said_len (T := tab) (A := A_spec_HeadDigest) tabOk ok_spec_HeadDigest tabOk.follows Try.func20 (by kernel_rfl) (by kernel_rfl) (fun hl => ⟨0, (a_spec_HeadDigest 0 a0).trans (spec_HeadDigest_ok (ρ := Ret) (fun r0 => some [⟨(.int .i64), r0⟩]) a0 hl.1 g)⟩)
/-! impl.KeysInts -/
abbrev G.impl_KeysInts (k : TKeys) : Bool := decide (wK k ≤ 1048576)
abbrev N.impl_KeysInts (k : TKeys) : List Int := keysInts k
def impl_KeysInts {ρ : Type} (k : (List Int) → Option ρ) (a0 : TKeys) : Option ρ := (cond (fit (List.length [a0.2, (List.length a0.1 : Int)]) (List.length a0.1)) (k (List.append [a0.2, (List.length a0.1 : Int)] a0.1)) none)
theorem impl_KeysInts_ok {ρ : Type} (k : (List Int) → Option ρ) (a0 : TKeys) (l_a0 : (lnL (fun _ => True) a0.1 ∧ True)) (g : G.impl_KeysInts a0 = true) : impl_KeysInts k  a0 = k (N.impl_KeysInts a0) := by
  unfold G.impl_KeysInts at g
  have h : wK a0 ≤ 1048576 := of_decide_eq_true g
  have h1 : fit (List.length [a0.2, (List.length a0.1 : Int)]) (List.length a0.1) = true := fit_of (by
    unfold wK at h
    simp
    omega)
  show cond _ _ none = _
  rw [h1]
  rfl
def O_impl_KeysInts : Orac := nilO
theorem ok_impl_KeysInts : OracOk Try.prog sigs O_impl_KeysInts := nilO_ok
def A_impl_KeysInts : Ann := fun b => ⟨[], []⟩
theorem a_impl_KeysInts (n : Nat) (a0 : TKeys) : absF tab sigs O_impl_KeysInts A_impl_KeysInts Try.f35 [((.slice 3 (.int .i64)), (.own 0))] n [.val (.pair (.slice 3 (.int .i64)) (.int .i64)) a0] = impl_KeysInts (fun r0 => some [⟨(.slice 3 (.int .i64)), r0⟩])  a0 := by kernel_rfl
theorem said_impl_KeysInts (a0 : TKeys) (g : G.impl_KeysInts a0 = true) : Said Try.prog sigs_35 35 [.val (.pair (.slice 3 (.int .i64)) (.int .i64)) a0] [⟨(.slice 3 (.int .i64)), N.impl_KeysInts a0⟩] := said_len (T := tab) (A := A_impl_KeysInts) tabOk ok_impl_KeysInts tabOk.follows Try.func35 (by kernel_rfl) (by kernel_rfl) (fun hl => ⟨0, (a_impl_KeysInts 0 a0).trans (impl_KeysInts_ok (ρ := Ret) (fun r0 => some [⟨(.slice 3 (.int .i64)), r0⟩]) a0 hl.1 g)⟩)
/-! impl.bit -/
abbrev N.impl_bit (b : Bool) : Int := bitOf b
def impl_bit {ρ : Type} (k : Int → Option ρ) (a0 : Bool) : Option ρ := (cond a0 (k (1 : Int)) (k (0 : Int)))
theorem impl_bit_ok {ρ : Type} (k : Int → Option ρ) (a0 : Bool) : impl_bit k  a0 = k (N.impl_bit a0) := by
  simp only [impl_bit, N.impl_bit, bitOf]
  cases a0 <;> rfl
def O_impl_bit : Orac := nilO
theorem ok_impl_bit : OracOk Try.prog sigs O_impl_bit := nilO_ok
def A_impl_bit : Ann := fun b => ⟨[], []⟩
theorem a_impl_bit (n : Nat) (a0 : Bool) : absF tab sigs O_impl_bit A_impl_bit Try.f36 [((.int .i64), .no)] n [.val .bool a0] = impl_bit (fun r0 => some [⟨(.int .i64), r0⟩])  a0 := by kernel_rfl
theorem said_impl_bit (a0 : Bool) : Said Try.prog sigs_36 36 [.val .bool a0] [⟨(.int .i64), N.impl_bit a0⟩] := said_len (T := tab) (A := A_impl_bit) tabOk ok_impl_bit tabOk.follows Try.func36 (by kernel_rfl) (by kernel_rfl) (fun hl => ⟨0, (a_impl_bit 0 a0).trans (impl_bit_ok (ρ := Ret) (fun r0 => some [⟨(.int .i64), r0⟩]) a0)⟩)
/-! slices.Grow[[]int,int] -/
abbrev G.slices_Grow_int__nil (n : Int) : Bool := decide (0 ≤ n) && decide (n ≤ 4194304)
abbrev N.slices_Grow_int__nil (n : Int) : List Int := []
def slices_Grow_int__nil {ρ : Type} (k : (List Int) → Option ρ) (a1 : Int) : Option ρ := (cond (decide (a1 < (0 : Int))) none (cond (decide ((IntKind.wrap .i64 (a1 - (IntKind.wrap .i64 ((0 : Int) - (List.length ([] : (List Int)) : Int))))) > (0 : Int))) (cond (decide (0 ≤ (IntKind.wrap .i64 (a1 - (IntKind.wrap .i64 ((0 : Int) - (List.length ([] : (List Int)) : Int))))))) (cond (fit (List.length ([] : (List Int))) (Int.toNat (IntKind.wrap .i64 (a1 - (IntKind.wrap .i64 ((0 : Int) - (List.length ([] : (List Int)) : Int))))))) (cond (decide (0 ≤ (List.length ([] : (List Int)) : Int)) && decide ((List.length ([] : (List Int)) : Int) ≤ (List.length (List.append ([] : (List Int)) (List.replicate (Int.toNat (IntKind.wrap .i64 (a1 - (IntKind.wrap .i64 ((0 : Int) - (List.length ([] : (List Int)) : Int)))))) (0 : Int))) : Int))) (k (List.take (Int.toNat (List.length ([] : (List Int)) : Int)) (List.append ([] : (List Int)) (List.replicate (Int.toNat (IntKind.wrap .i64 (a1 - (IntKind.wrap .i64 ((0 : Int) - (List.length ([] : (List Int)) : Int)))))) (0 : Int))))) none) none) none) (k [])))
theorem slices_Grow_int__nil_ok {ρ : Type} (k : (List Int) → Option ρ) (a1 : Int) (g : G.slices_Grow_int__nil a1 = true) : slices_Grow_int__nil k  a1 = k (N.slices_Grow_int__nil a1) := by
  unfold G.slices_Grow_int__nil at g
  replace g := (Bool.and_eq_true _ _).mp g
  have g1 : 0 ≤ a1 := of_decide_eq_true g.1
  have g2 : a1 ≤ 4194304 := of_decide_eq_true g.2
  have e0 : IntKind.wrap .i64 ((0 : Int) - (List.length ([] : List Int) : Int)) = 0 := by decide
  have e1 : IntKind.wrap .i64 (a1 - 0) = a1 := by rw [wrap_id (by omega) (by omega)]; omega
  have e2 : decide (a1 < 0) = false := decide_eq_false (by omega)
  simp only [slices_Grow_int__nil, e0, e1, e2, cond_false]
  by_cases h : a1 > 0
  · have e3 : fit (List.length ([] : List Int)) (Int.toNat a1) = true := fit_of (by simp; omega)
    simp only [decide_eq_true h, decide_eq_true g1, e3, cond_true]
    have e4 : decide (0 ≤ max a1 0) = true := decide_eq_true (by omega)
    simp
    rw [e4]
    rfl
  · simp only [decide_eq_false h, cond_false]
def O_slices_Grow_int__nil : Orac := nilO
theorem ok_slices_Grow_int__nil : OracOk Try.prog sigs O_slices_Grow_int__nil := nilO_ok
def A_slices_Grow_int__nil : Ann := fun b => ⟨[], []⟩
theorem a_slices_Grow_int__nil (n : Nat) (a1 : Int) : absF tab sigs O_slices_Grow_int__nil A_slices_Grow_int__nil Try.f53 [((.slice 3 (.int .i64)), (.own 0))] n [.nil 3 (.int .i64), .val (.int .i64) a1] = slices_Grow_int__nil (fun r0 => some [⟨(.slice 3 (.int .i64)), r0⟩])  a1 := by kernel_rfl
theorem said_slices_Grow_int__nil (a1 : Int) (g : G.slices_Grow_int__nil a1 = true) : Said Try.prog sigs_53 53 [.nil 3 (.int .i64), .val (.int .i64) a1] [⟨(.slice 3 (.int .i64)), N.slices_Grow_int__nil a1⟩] := said_len (T := tab) (A := A_slices_Grow_int__nil) tabOk ok_slices_Grow_int__nil tabOk.follows Try.func53 (by kernel_rfl) (by kernel_rfl) (fun hl => ⟨0, (a_slices_Grow_int__nil 0 a1).trans (slices_Grow_int__nil_ok (ρ := Ret) (fun r0 => some [⟨(.slice 3 (.int .i64)), r0⟩]) a1 g)⟩)
/-! slices.Concat[[]int,int] -/
abbrev G.slices_Concat_int (l : List (List Int)) : Bool := decide (l.length ≤ 64) && decide (l.flatten.length ≤ 4194304)
abbrev N.slices_Concat_int (l : List (List Int)) : List Int := l.flatten
def slices_Concat_int_L2 {ρ : Type} (k : (List Int) → Option ρ) (L2 : (List (List Int)) → Int → Int → (List Int) → Option ρ) (v2_0 : (List (List Int))) (v2_1 : Int) (v2_2 : Int) (v2_3 : (List Int)) : Option ρ := (cond (decide (v2_2 < v2_1)) (cond (inRange v2_2 (List.length v2_0)) (cond (fit (List.length v2_3) (List.length (List.getD v2_0 (Int.toNat v2_2) []))) (L2 v2_0 v2_1 (IntKind.wrap .i64 (v2_2 + (1 : Int))) (List.append v2_3 (List.getD v2_0 (Int.toNat v2_2) []))) none) none) (k v2_3))
def slices_Concat_int_L0 {ρ : Type} (k : (List Int) → Option ρ) (L0 : (List (List Int)) → Int → (List (List Int)) → Int → Int → Option ρ) (L2 : (List (List Int)) → Int → Int → (List Int) → Option ρ) (v0_0 : (List (List Int))) (v0_1 : Int) (v0_2 : (List (List Int))) (v0_3 : Int) (v0_4 : Int) : Option ρ := (cond (decide (v0_4 < v0_3)) (cond (inRange v0_4 (List.length v0_2)) (cond (decide ((IntKind.wrap .i64 (v0_1 + (List.length (List.getD v0_2 (Int.toNat v0_4) []) : Int))) < (0 : Int))) none (L0 v0_0 (IntKind.wrap .i64 (v0_1 + (List.length (List.getD v0_2 (Int.toNat v0_4) []) : Int))) v0_2 v0_3 (IntKind.wrap .i64 (v0_4 + (1 : Int))))) none) (cond (G.slices_Grow_int__nil v0_1) (L2 v0_0 (List.length v0_0 : Int) (0 : Int) (N.slices_Grow_int__nil v0_1)) none))
def slices_Concat_int {ρ : Type} (k : (List Int) → Option ρ) (L0 : (List (List Int)) → Int → (List (List Int)) → Int → Int → Option ρ) (a0 : (List (List Int))) : Option ρ := (L0 a0 (0 : Int) a0 (List.length a0 : Int) (0 : Int))
theorem slices_Concat_int_ok {ρ : Type} (k : (List Int) → Option ρ) (a0 : (List (List Int))) (l_a0 : lnL (fun y => lnL (fun _ => True) y) a0) (g : G.slices_Concat_int a0 = true) : ∃ n0, ∀ n, n0 ≤ n → ∀ (L0 : Nat → (List (List Int)) → Int → (List (List Int)) → Int → Int → Option ρ) (L2 : Nat → (List (List Int)) → Int → Int → (List Int) → Option ρ) (h0 : ∀ ( m : Nat) (v0_0 : (List (List Int))) (v0_1 : Int) (v0_2 : (List (List Int))) (v0_3 : Int) (v0_4 : Int), L0 (m + 1) v0_0 v0_1 v0_2 v0_3 v0_4 = slices_Concat_int_L0 k (L0 m) (L2 n) v0_0 v0_1 v0_2 v0_3 v0_4) (h2 : ∀ ( m : Nat) (v2_0 : (List (List Int))) (v2_1 : Int) (v2_2 : Int) (v2_3 : (List Int)), L2 (m + 1) v2_0 v2_1 v2_2 v2_3 = slices_Concat_int_L2 k (L2 m) v2_0 v2_1 v2_2 v2_3), slices_Concat_int k (L0 n) a0 = k (N.slices_Concat_int a0) := by
  unfold G.slices_Concat_int at g
  replace g := (Bool.and_eq_true _ _).mp g
  have g1 : a0.length ≤ 64 := of_decide_eq_true g.1
  have g2 : a0.flatten.length ≤ 4194304 := of_decide_eq_true g.2
  refine ⟨a0.length + 1, fun n hn L0 L2 h0 h2 => ?_⟩
  have hrun := raw_run0 (σ := Int) (s := 0) (L := fun m i s => L0 m a0 s a0 (a0.length : Int) i) (R := fun i s c => slices_Concat_int_L0 k (fun _ s _ _ i => c i s) (L2 n) a0 s a0 (a0.length : Int) i) (fun m i s => h0 m a0 s a0 (a0.length : Int) i) a0.length (fun j s => s = ((a0.take j).flatten.length : Int)) (fun j s => L2 n a0 (a0.length : Int) 0 []) (fun j s c hj hI hc => ?_) (fun s c hI => ?_) hn (by simp)
  · refine hrun.trans ?_
    refine (raw_foldl (a := a0) [] (fun o x => o ++ x) (k := k) (s := []) (L := fun m i s => L2 m a0 (a0.length : Int) i s) (R := fun i s c => slices_Concat_int_L2 k (fun _ _ i s => c i s) a0 (a0.length : Int) i s) (fun m i s => h2 m a0 (a0.length : Int) i s) (fun j o => o.length = (a0.take j).flatten.length) (fun j s c hj hI => ?_) (fun j s hj hI => ?_) (fun s c => ?_) hn (by simp)).trans (by rw [foldl_flat]; rfl)
    · have hs := take_flat_succ a0 j hj
      have hle := take_flat_le a0 (j + 1)
      have e3 : fit s.length (a0.getD j []).length = true := fit_of (by omega)
      simp only [slices_Concat_int_L2, lt_nat, inRange_nat, decide_eq_true hj, cond_true, Int.toNat_natCast, e3, wrap_succ (j := j) (by unfold big; omega), List.append_eq]
    · rw [List.length_append, take_flat_succ a0 j hj, hI]
    · simp [slices_Concat_int_L2]
  · have hs := take_flat_succ a0 j hj
    have hle := take_flat_le a0 (j + 1)
    have e1 : IntKind.wrap .i64 (s + ((a0.getD j []).length : Int)) = ((a0.take (j + 1)).flatten.length : Int) := by rw [hI, wrap_id (by omega) (by omega)]; omega
    have e2 : decide ((((a0.take (j + 1)).flatten.length : Nat) : Int) < 0) = false := decide_eq_false (by omega)
    have := hc _ rfl
    simp only [slices_Concat_int_L0, lt_nat, inRange_nat, decide_eq_true hj, cond_true, cond_false, Int.toNat_natCast, e1, e2, wrap_succ (j := j) (by unfold big; omega), this]
  · rw [List.take_length] at hI
    have e1 : G.slices_Grow_int__nil s = true := by
      unfold G.slices_Grow_int__nil
      rw [decide_eq_true (by omega), decide_eq_true (by omega)]
      rfl
    simp only [slices_Concat_int_L0, lt_nat, Nat.lt_irrefl, decide_false, cond_false, e1, cond_true]
def OP_slices_Concat_int (f_slices_Grow_int__nil : Int → (List Int)) (g_slices_Grow_int__nil : Int → Bool) : Orac := (orcX 53 [.nil 3 (.int .i64), .val (.int .i64)] (fun d => g_slices_Grow_int__nil d.2.1) (fun d => [⟨(.slice 3 (.int .i64)), f_slices_Grow_int__nil d.2.1⟩]) nilO)
def O_slices_Concat_int : Orac := OP_slices_Concat_int N.slices_Grow_int__nil G.slices_Grow_int__nil
def slices_Concat_int_P_L2 {ρ : Type} (f_slices_Grow_int__nil : Int → (List Int)) (g_slices_Grow_int__nil : Int → Bool) (k : (List Int) → Option ρ) (L2 : (List (List Int)) → Int → Int → (List Int) → Option ρ) (v2_0 : (List (List Int))) (v2_1 : Int) (v2_2 : Int) (v2_3 : (List Int)) : Option ρ := (cond (decide (v2_2 < v2_1)) (cond (inRange v2_2 (List.length v2_0)) (cond (fit (List.length v2_3) (List.length (List.getD v2_0 (Int.toNat v2_2) []))) (L2 v2_0 v2_1 (IntKind.wrap .i64 (v2_2 + (1 : Int))) (List.append v2_3 (List.getD v2_0 (Int.toNat v2_2) []))) none) none) (k v2_3))
def slices_Concat_int_P_L0 {ρ : Type} (f_slices_Grow_int__nil : Int → (List Int)) (g_slices_Grow_int__nil : Int → Bool) (k : (List Int) → Option ρ) (L0 : (List (List Int)) → Int → (List (List Int)) → Int → Int → Option ρ) (L2 : (List (List Int)) → Int → Int → (List Int) → Option ρ) (v0_0 : (List (List Int))) (v0_1 : Int) (v0_2 : (List (List Int))) (v0_3 : Int) (v0_4 : Int) : Option ρ := (cond (decide (v0_4 < v0_3)) (cond (inRange v0_4 (List.length v0_2)) (cond (decide ((IntKind.wrap .i64 (v0_1 + (List.length (List.getD v0_2 (Int.toNat v0_4) []) : Int))) < (0 : Int))) none (L0 v0_0 (IntKind.wrap .i64 (v0_1 + (List.length (List.getD v0_2 (Int.toNat v0_4) []) : Int))) v0_2 v0_3 (IntKind.wrap .i64 (v0_4 + (1 : Int))))) none) (cond (g_slices_Grow_int__nil v0_1) (L2 v0_0 (List.length v0_0 : Int) (0 : Int) (f_slices_Grow_int__nil v0_1)) none))
def slices_Concat_int_P {ρ : Type} (f_slices_Grow_int__nil : Int → (List Int)) (g_slices_Grow_int__nil : Int → Bool) (k : (List Int) → Option ρ) (L0 : (List (List Int)) → Int → (List (List Int)) → Int → Int → Option ρ) (a0 : (List (List Int))) : Option ρ := (L0 a0 (0 : Int) a0 (List.length a0 : Int) (0 : Int))
theorem ok_slices_Concat_int : OracOk Try.prog sigs O_slices_Concat_int := (orcX_ok rfl (fun d g => said_slices_Grow_int__nil d.2.1 g) nilO_ok)
def A_slices_Concat_int : Ann := fun b => cond (Nat.beq b 2) ⟨[(6, true), (25, false), (26, false), (27, false)], []⟩ (cond (Nat.beq b 0) ⟨[(0, false), (3, false), (9, false), (10, false), (11, false)], []⟩ (⟨[], []⟩))
def S_slices_Concat_int_0 (v0_0 : (List (List Int))) (v0_1 : Int) (v0_2 : (List (List Int))) (v0_3 : Int) (v0_4 : Int) : St := [(kT 0, some (.tv (.v (.slice 22 (.slice 3 (.int .i64))) v0_0 .no))), (kT 3, some (.tv (.v (.int .i64) v0_1 .no))), (kT 9, some (.tv (.v (.slice 22 (.slice 3 (.int .i64))) v0_2 .no))), (kT 10, some (.tv (.v (.int .i64) v0_3 .no))), (kT 11, some (.tv (.v (.int .i64) v0_4 .no)))]
noncomputable def L_P_slices_Concat_int_0 (f_slices_Grow_int__nil : Int → (List Int)) (g_slices_Grow_int__nil : Int → Bool) (n m : Nat) : St → Option Ret := loopOf tab sigs (OP_slices_Concat_int f_slices_Grow_int__nil g_slices_Grow_int__nil) A_slices_Concat_int Try.f34 [((.slice 3 (.int .i64)), (.own 0))] n (fun _ => 0) 0 m
noncomputable def L_slices_Concat_int_0 (n m : Nat) : St → Option Ret := L_P_slices_Concat_int_0 N.slices_Grow_int__nil G.slices_Grow_int__nil n m
def S_slices_Concat_int_2 (v2_0 : (List (List Int))) (v2_1 : Int) (v2_2 : Int) (v2_3 : (List Int)) : St := [(kT 6, some (.tv (.v (.slice 3 (.int .i64)) [] (.own 48)))), (kT 25, some (.tv (.v (.slice 22 (.slice 3 (.int .i64))) v2_0 .no))), (kT 26, some (.tv (.v (.int .i64) v2_1 .no))), (kT 27, some (.tv (.v (.int .i64) v2_2 .no))), (kR 48, some (.row 3 (.int .i64) v2_3))]
noncomputable def L_P_slices_Concat_int_2 (f_slices_Grow_int__nil : Int → (List Int)) (g_slices_Grow_int__nil : Int → Bool) (n m : Nat) : St → Option Ret := loopOf tab sigs (OP_slices_Concat_int f_slices_Grow_int__nil g_slices_Grow_int__nil) A_slices_Concat_int Try.f34 [((.slice 3 (.int .i64)), (.own 0))] n (fun _ => 0) 2 m
noncomputable def L_slices_Concat_int_2 (n m : Nat) : St → Option Ret := L_P_slices_Concat_int_2 N.slices_Grow_int__nil G.slices_Grow_int__nil n m
theorem bP_slices_Concat_int_0 (f_slices_Grow_int__nil : Int → (List Int)) (g_slices_Grow_int__nil : Int → Bool) (n m : Nat) (v0_0 : (List (List Int))) (v0_1 : Int) (v0_2 : (List (List Int))) (v0_3 : Int) (v0_4 : Int) : L_P_slices_Concat_int_0 f_slices_Grow_int__nil g_slices_Grow_int__nil n (m + 1) (S_slices_Concat_int_0 v0_0 v0_1 v0_2 v0_3 v0_4) = slices_Concat_int_P_L0 f_slices_Grow_int__nil g_slices_Grow_int__nil (fun r0 => some [⟨(.slice 3 (.int .i64)), r0⟩]) (fun v0_0 v0_1 v0_2 v0_3 v0_4 => L_P_slices_Concat_int_0 f_slices_Grow_int__nil g_slices_Grow_int__nil n m (S_slices_Concat_int_0 v0_0 v0_1 v0_2 v0_3 v0_4)) (fun v2_0 v2_1 v2_2 v2_3 => L_P_slices_Concat_int_2 f_slices_Grow_int__nil g_slices_Grow_int__nil n n (S_slices_Concat_int_2 v2_0 v2_1 v2_2 v2_3)) v0_0 v0_1 v0_2 v0_3 v0_4 := by kernel_rfl
theorem b_slices_Concat_int_0 (n m : Nat) (v0_0 : (List (List Int))) (v0_1 : Int) (v0_2 : (List (List Int))) (v0_3 : Int) (v0_4 : Int) : L_slices_Concat_int_0 n (m + 1) (S_slices_Concat_int_0 v0_0 v0_1 v0_2 v0_3 v0_4) = slices_Concat_int_L0 (fun r0 => some [⟨(.slice 3 (.int .i64)), r0⟩]) (fun v0_0 v0_1 v0_2 v0_3 v0_4 => L_slices_Concat_int_0 n m (S_slices_Concat_int_0 v0_0 v0_1 v0_2 v0_3 v0_4)) (fun v2_0 v2_1 v2_2 v2_3 => L_slices_Concat_int_2 n n (S_slices_Concat_int_2 v2_0 v2_1 v2_2 v2_3)) v0_0 v0_1 v0_2 v0_3 v0_4 := bP_slices_Concat_int_0 N.slices_Grow_int__nil G.slices_Grow_int__nil n m v0_0 v0_1 v0_2 v0_3 v0_4
theorem bP_slices_Concat_int_2 (f_slices_Grow_int__nil : Int → (List Int)) (g_slices_Grow_int__nil : Int → Bool) (n m : Nat) (v2_0 : (List (List Int))) (v2_1 : Int) (v2_2 : Int) (v2_3 : (List Int)) : L_P_slices_Concat_int_2 f_slices_Grow_int__nil g_slices_Grow_int__nil n (m + 1) (S_slices_Concat_int_2 v2_0 v2_1 v2_2 v2_3) = slices_Concat_int_P_L2 f_slices_Grow_int__nil g_slices_Grow_int__nil (fun r0 => some [⟨(.slice 3 (.int .i64)), r0⟩]) (fun v2_0 v2_1 v2_2 v2_3 => L_P_slices_Concat_int_2 f_slices_Grow_int__nil g_slices_Grow_int__nil n m (S_slices_Concat_int_2 v2_0 v2_1 v2_2 v2_3)) v2_0 v2_1 v2_2 v2_3 := by kernel_rfl
theorem b_slices_Concat_int_2 (n m : Nat) (v2_0 : (List (List Int))) (v2_1 : Int) (v2_2 : Int) (v2_3 : (List Int)) : L_slices_Concat_int_2 n (m + 1) (S_slices_Concat_int_2 v2_0 v2_1 v2_2 v2_3) = slices_Concat_int_L2 (fun r0 => some [⟨(.slice 3 (.int .i64)), r0⟩]) (fun v2_0 v2_1 v2_2 v2_3 => L_slices_Concat_int_2 n m (S_slices_Concat_int_2 v2_0 v2_1 v2_2 v2_3)) v2_0 v2_1 v2_2 v2_3 := bP_slices_Concat_int_2 N.slices_Grow_int__nil G.slices_Grow_int__nil n m v2_0 v2_1 v2_2 v2_3
theorem aP_slices_Concat_int (f_slices_Grow_int__nil : Int → (List Int)) (g_slices_Grow_int__nil : Int → Bool) (n : Nat) (a0 : (List (List Int))) : absF tab sigs (OP_slices_Concat_int f_slices_Grow_int__nil g_slices_Grow_int__nil) A_slices_Concat_int Try.f34 [((.slice 3 (.int .i64)), (.own 0))] n [.val (.slice 22 (.slice 3 (.int .i64))) a0] = slices_Concat_int_P f_slices_Grow_int__nil g_slices_Grow_int__nil (fun r0 => some [⟨(.slice 3 (.int .i64)), r0⟩]) (fun v0_0 v0_1 v0_2 v0_3 v0_4 => L_P_slices_Concat_int_0 f_slices_Grow_int__nil g_slices_Grow_int__nil n n (S_slices_Concat_int_0 v0_0 v0_1 v0_2 v0_3 v0_4)) a0 := by kernel_rfl
theorem a_slices_Concat_int (n : Nat) (a0 : (List (List Int))) : absF tab sigs O_slices_Concat_int A_slices_Concat_int Try.f34 [((.slice 3 (.int .i64)), (.own 0))] n [.val (.slice 22 (.slice 3 (.int .i64))) a0] = slices_Concat_int (fun r0 => some [⟨(.slice 3 (.int .i64)), r0⟩]) (fun v0_0 v0_1 v0_2 v0_3 v0_4 => L_slices_Concat_int_0 n n (S_slices_Concat_int_0 v0_0 v0_1 v0_2 v0_3 v0_4)) a0 := aP_slices_Concat_int N.slices_Grow_int__nil G.slices_Grow_int__nil n a0
theorem said_slices_Concat_int (a0 : (List (List Int))) (g : G.slices_Concat_int a0 = true) : Said Try.prog sigs_34 34 [.val (.slice 22 (.slice 3 (.int .i64))) a0] [⟨(.slice 3 (.int .i64)), N.slices_Concat_int a0⟩] := said_len (T := tab) (A := A_slices_Concat_int) tabOk ok_slices_Concat_int tabOk.follows Try.func34 (by kernel_rfl) (by kernel_rfl) (fun hl => let ⟨n, hn⟩ := slices_Concat_int_ok (ρ := Ret) (fun r0 => some [⟨(.slice 3 (.int .i64)), r0⟩]) a0 hl.1 g; ⟨n, (a_slices_Concat_int n a0).trans (hn n (Nat.le_refl n) (fun  m v0_0 v0_1 v0_2 v0_3 v0_4 => L_slices_Concat_int_0 n  m (S_slices_Concat_int_0 v0_0 v0_1 v0_2 v0_3 v0_4)) (fun  m v2_0 v2_1 v2_2 v2_3 => L_slices_Concat_int_2 n  m (S_slices_Concat_int_2 v2_0 v2_1 v2_2 v2_3)) (fun  m v0_0 v0_1 v0_2 v0_3 v0_4 => b_slices_Concat_int_0 n  m v0_0 v0_1 v0_2 v0_3 v0_4) (fun  m v2_0 v2_1 v2_2 v2_3 => b_slices_Concat_int_2 n  m v2_0 v2_1 v2_2 v2_3))⟩)
/-! impl.HeadInts -/
abbrev G.impl_HeadInts (h : THead) : Bool := decide (wH h ≤ 1048576)
abbrev N.impl_HeadInts (h : THead) : List Int := headInts h
def impl_HeadInts {ρ : Type} (k : (List Int) → Option ρ) (a0 : THead) : Option ρ := (cond (G.impl_KeysInts a0.2.2.2.2.2.2.2.2.1) (cond (G.impl_KeysInts a0.2.2.2.2.2.2.2.2.2.1) (cond (G.impl_KeysInts a0.2.2.2.2.2.2.2.2.2.2.2.1) (cond (G.slices_Concat_int [[a0.1, a0.2.1, a0.2.2.1, a0.2.2.2.1, a0.2.2.2.2.1, a0.2.2.2.2.2.1, a0.2.2.2.2.2.2.1, a0.2.2.2.2.2.2.2.1], (N.impl_KeysInts a0.2.2.2.2.2.2.2.2.1), (N.impl_KeysInts a0.2.2.2.2.2.2.2.2.2.1), [a0.2.2.2.2.2.2.2.2.2.2.1], (N.impl_KeysInts a0.2.2.2.2.2.2.2.2.2.2.2.1), [(N.impl_bit a0.2.2.2.2.2.2.2.2.2.2.2.2)]]) (k (N.slices_Concat_int [[a0.1, a0.2.1, a0.2.2.1, a0.2.2.2.1, a0.2.2.2.2.1, a0.2.2.2.2.2.1, a0.2.2.2.2.2.2.1, a0.2.2.2.2.2.2.2.1], (N.impl_KeysInts a0.2.2.2.2.2.2.2.2.1), (N.impl_KeysInts a0.2.2.2.2.2.2.2.2.2.1), [a0.2.2.2.2.2.2.2.2.2.2.1], (N.impl_KeysInts a0.2.2.2.2.2.2.2.2.2.2.2.1), [(N.impl_bit a0.2.2.2.2.2.2.2.2.2.2.2.2)]])) none) none) none) none)
theorem impl_HeadInts_ok {ρ : Type} (k : (List Int) → Option ρ) (a0 : THead) (l_a0 : (True ∧ (True ∧ (True ∧ (True ∧ (True ∧ (True ∧ (True ∧ (True ∧ ((lnL (fun _ => True) a0.2.2.2.2.2.2.2.2.1.1 ∧ True) ∧ ((lnL (fun _ => True) a0.2.2.2.2.2.2.2.2.2.1.1 ∧ True) ∧ (True ∧ ((lnL (fun _ => True) a0.2.2.2.2.2.2.2.2.2.2.2.1.1 ∧ True) ∧ True))))))))))))) (g : G.impl_HeadInts a0 = true) : impl_HeadInts k  a0 = k (N.impl_HeadInts a0) := by
  unfold G.impl_HeadInts at g
  have hw : wH a0 ≤ 1048576 := of_decide_eq_true g
  unfold wH at hw
  have g1 : decide (wK a0.2.2.2.2.2.2.2.2.1 ≤ 1048576) = true := decide_eq_true (by omega)
  have g2 : decide (wK a0.2.2.2.2.2.2.2.2.2.1 ≤ 1048576) = true := decide_eq_true (by omega)
  have g3 : decide (wK a0.2.2.2.2.2.2.2.2.2.2.2.1 ≤ 1048576) = true := decide_eq_true (by omega)
  have hf : ([[a0.1, a0.2.1, a0.2.2.1, a0.2.2.2.1, a0.2.2.2.2.1, a0.2.2.2.2.2.1, a0.2.2.2.2.2.2.1, a0.2.2.2.2.2.2.2.1], keysInts a0.2.2.2.2.2.2.2.2.1, keysInts a0.2.2.2.2.2.2.2.2.2.1, [a0.2.2.2.2.2.2.2.2.2.2.1], keysInts a0.2.2.2.2.2.2.2.2.2.2.2.1, [bitOf a0.2.2.2.2.2.2.2.2.2.2.2.2]] : List (List Int)).flatten = headInts a0 := by
    unfold headInts
    simp
  have g4 : (decide (([[a0.1, a0.2.1, a0.2.2.1, a0.2.2.2.1, a0.2.2.2.2.1, a0.2.2.2.2.2.1, a0.2.2.2.2.2.2.1, a0.2.2.2.2.2.2.2.1], keysInts a0.2.2.2.2.2.2.2.2.1, keysInts a0.2.2.2.2.2.2.2.2.2.1, [a0.2.2.2.2.2.2.2.2.2.2.1], keysInts a0.2.2.2.2.2.2.2.2.2.2.2.1, [bitOf a0.2.2.2.2.2.2.2.2.2.2.2.2]] : List (List Int)).length ≤ 64) && decide ((headInts a0).length ≤ 4194304)) = true := by
    have h1 := headInts_len a0
    unfold wH at h1
    rw [decide_eq_true (p := (headInts a0).length ≤ 4194304) (by omega)]
    rfl
  simp only [impl_HeadInts, G.impl_KeysInts, N.impl_KeysInts, N.impl_bit, g1, g2, g3, cond_true, G.slices_Concat_int, N.slices_Concat_int, hf, g4, N.impl_HeadInts]
def OP_impl_HeadInts (f_impl_KeysInts : TKeys → (List Int)) (g_impl_KeysInts : TKeys → Bool) (f_impl_bit : Bool → Int) (f_slices_Concat_int : (List (List Int)) → (List Int)) (g_slices_Concat_int : (List (List Int)) → Bool) : Orac := (orcX 34 [.val (.slice 22 (.slice 3 (.int .i64)))] (fun d => g_slices_Concat_int d.1) (fun d => [⟨(.slice 3 (.int .i64)), f_slices_Concat_int d.1⟩]) (orcX 36 [.val .bool] (fun d => true) (fun d => [⟨(.int .i64), f_impl_bit d.1⟩]) (orcX 35 [.val (.pair (.slice 3 (.int .i64)) (.int .i64))] (fun d => g_impl_KeysInts d.1) (fun d => [⟨(.slice 3 (.int .i64)), f_impl_KeysInts d.1⟩]) nilO)))
def O_impl_HeadInts : Orac := OP_impl_HeadInts N.impl_KeysInts G.impl_KeysInts N.impl_bit N.slices_Concat_int G.slices_Concat_int
def impl_HeadInts_P {ρ : Type} (f_impl_KeysInts : TKeys → (List Int)) (g_impl_KeysInts : TKeys → Bool) (f_impl_bit : Bool → Int) (f_slices_Concat_int : (List (List Int)) → (List Int)) (g_slices_Concat_int : (List (List Int)) → Bool) (k : (List Int) → Option ρ) (a0 : THead) : Option ρ := (cond (g_impl_KeysInts a0.2.2.2.2.2.2.2.2.1) (cond (g_impl_KeysInts a0.2.2.2.2.2.2.2.2.2.1) (cond (g_impl_KeysInts a0.2.2.2.2.2.2.2.2.2.2.2.1) (cond (g_slices_Concat_int [[a0.1, a0.2.1, a0.2.2.1, a0.2.2.2.1, a0.2.2.2.2.1, a0.2.2.2.2.2.1, a0.2.2.2.2.2.2.1, a0.2.2.2.2.2.2.2.1], (f_impl_KeysInts a0.2.2.2.2.2.2.2.2.1), (f_impl_KeysInts a0.2.2.2.2.2.2.2.2.2.1), [a0.2.2.2.2.2.2.2.2.2.2.1], (f_impl_KeysInts a0.2.2.2.2.2.2.2.2.2.2.2.1), [(f_impl_bit a0.2.2.2.2.2.2.2.2.2.2.2.2)]]) (k (f_slices_Concat_int [[a0.1, a0.2.1, a0.2.2.1, a0.2.2.2.1, a0.2.2.2.2.1, a0.2.2.2.2.2.1, a0.2.2.2.2.2.2.1, a0.2.2.2.2.2.2.2.1], (f_impl_KeysInts a0.2.2.2.2.2.2.2.2.1), (f_impl_KeysInts a0.2.2.2.2.2.2.2.2.2.1), [a0.2.2.2.2.2.2.2.2.2.2.1], (f_impl_KeysInts a0.2.2.2.2.2.2.2.2.2.2.2.1), [(f_impl_bit a0.2.2.2.2.2.2.2.2.2.2.2.2)]])) none) none) none) none)
theorem ok_impl_HeadInts : OracOk Try.prog sigs O_impl_HeadInts := (orcX_ok rfl (fun d g => said_slices_Concat_int d.1 g) (orcX_ok rfl (fun d g => said_impl_bit d.1) (orcX_ok rfl (fun d g => said_impl_KeysInts d.1 g) nilO_ok)))
def A_impl_HeadInts : Ann := fun b => ⟨[], []⟩
theorem aP_impl_HeadInts (f_impl_KeysInts : TKeys → (List Int)) (g_impl_KeysInts : TKeys → Bool) (f_impl_bit : Bool → Int) (f_slices_Concat_int : (List (List Int)) → (List Int)) (g_slices_Concat_int : (List (List Int)) → Bool) (n : Nat) (a0 : THead) : absF tab sigs (OP_impl_HeadInts f_impl_KeysInts g_impl_KeysInts f_impl_bit f_slices_Concat_int g_slices_Concat_int) A_impl_HeadInts Try.f15 [((.slice 3 (.int .i64)), (.own 0))] n [.val (.pair (.int .i64) (.pair (.int .i64) (.pair (.int .i64) (.pair (.int .i64) (.pair (.int .i64) (.pair (.int .i64) (.pair (.int .i64) (.pair (.int .i64) (.pair (.pair (.slice 3 (.int .i64)) (.int .i64)) (.pair (.pair (.slice 3 (.int .i64)) (.int .i64)) (.pair (.int .i64) (.pair (.pair (.slice 3 (.int .i64)) (.int .i64)) .bool)))))))))))) a0] = impl_HeadInts_P f_impl_KeysInts g_impl_KeysInts f_impl_bit f_slices_Concat_int g_slices_Concat_int (fun r0 => some [⟨(.slice 3 (.int .i64)), r0⟩])  a0 := by kernel_rfl
theorem a_impl_HeadInts (n : Nat) (a0 : THead) : absF tab sigs O_impl_HeadInts A_impl_HeadInts Try.f15 [((.slice 3 (.int .i64)), (.own 0))] n [.val (.pair (.int .i64) (.pair (.int .i64) (.pair (.int .i64) (.pair (.int .i64) (.pair (.int .i64) (.pair (.int .i64) (.pair (.int .i64) (.pair (.int .i64) (.pair (.pair (.slice 3 (.int .i64)) (.int .i64)) (.pair (.pair (.slice 3 (.int .i64)) (.int .i64)) (.pair (.int .i64) (.pair (.pair (.slice 3 (.int .i64)) (.int .i64)) .bool)))))))))))) a0] = impl_HeadInts (fun r0 => some [⟨(.slice 3 (.int .i64)), r0⟩])  a0 := aP_impl_HeadInts N.impl_KeysInts G.impl_KeysInts N.impl_bit N.slices_Concat_int G.slices_Concat_int n a0
theorem said_impl_HeadInts (a0 : THead) (g : G.impl_HeadInts a0 = true) : Said Try.prog sigs_15 15 [.val (.pair (.int .i64) (.pair (.int .i64) (.pair (.int .i64) (.pair (.int .i64) (.pair (.int .i64) (.pair (.int .i64) (.pair (.int .i64) (.pair (.int .i64) (.pair (.pair (.slice 3 (.int .i64)) (.int .i64)) (.pair (.pair (.slice 3 (.int .i64)) (.int .i64)) (.pair (.int .i64) (.pair (.pair (.slice 3 (.int .i64)) (.int .i64)) .bool)))))))))))) a0] [⟨(.slice 3 (.int .i64)), N.impl_HeadInts a0⟩] := said_len (T := tab) (A := A_impl_HeadInts) tabOk ok_impl_HeadInts tabOk.follows Try.func15 (by kernel_rfl) (by kernel_rfl) (fun hl => ⟨0, (a_impl_HeadInts 0 a0).trans (impl_HeadInts_ok (ρ := Ret) (fun r0 => some [⟨(.slice 3 (.int .i64)), r0⟩]) a0 hl.1 g)⟩)
/-! impl.InRange -/
abbrev N.impl_InRange (n lo hi : Int) : Bool := inR n lo hi
def impl_InRange {ρ : Type} (k : Bool → Option ρ) (a0 : Int) (a1 : Int) (a2 : Int) : Option ρ := (cond (decide (a1 ≤ a0)) (k (decide (a0 ≤ a2))) (k false))
theorem impl_InRange_ok {ρ : Type} (k : Bool → Option ρ) (a0 : Int) (a1 : Int) (a2 : Int) : impl_InRange k  a0 a1 a2 = k (N.impl_InRange a0 a1 a2) := by
  simp only [impl_InRange, inR]
  cases decide (a1 ≤ a0) <;> rfl
def O_impl_InRange : Orac := nilO
theorem ok_impl_InRange : OracOk Try.prog sigs O_impl_InRange := nilO_ok
def A_impl_InRange : Ann := fun b => ⟨[], []⟩
theorem a_impl_InRange (n : Nat) (a0 : Int) (a1 : Int) (a2 : Int) : absF tab sigs O_impl_InRange A_impl_InRange Try.f31 [(.bool, .no)] n [.val (.int .i64) a0, .val (.int .i64) a1, .val (.int .i64) a2] = impl_InRange (fun r0 => some [⟨.bool, r0⟩])  a0 a1 a2 := by kernel_rfl
theorem said_impl_InRange (a0 : Int) (a1 : Int) (a2 : Int) : Said Try.prog sigs_31 31 [.val (.int .i64) a0, .val (.int .i64) a1, .val (.int .i64) a2] [⟨.bool, N.impl_InRange a0 a1 a2⟩] := said_len (T := tab) (A := A_impl_InRange) tabOk ok_impl_InRange tabOk.follows Try.func31 (by kernel_rfl) (by kernel_rfl) (fun hl => ⟨0, (a_impl_InRange 0 a0 a1 a2).trans (impl_InRange_ok (ρ := Ret) (fun r0 => some [⟨.bool, r0⟩]) a0 a1 a2)⟩)
/-! impl.Mod -/
abbrev N.impl_Mod (n m : Int) : Int := modM n m
def impl_Mod {ρ : Type} (k : Int → Option ρ) (a0 : Int) (a1 : Int) : Option ρ := (cond (!(N.impl_InRange a1 (1 : Int) (1000000000000 : Int))) (k (0 : Int)) (cond (!(decide (a1 = 0))) (cond (!(decide (a1 = 0))) (k (Int.tmod (IntKind.wrap .i64 ((Int.tmod a0 a1) + a1)) a1)) none) none))
theorem impl_Mod_ok {ρ : Type} (k : Int → Option ρ) (a0 : Int) (a1 : Int) : impl_Mod k  a0 a1 = k (N.impl_Mod a0 a1) := by
  simp only [impl_Mod, N.impl_InRange, modM]
  cases h : inR a1 1 1000000000000
  · rfl
  · have h1 : 1 ≤ a1 := by
      unfold inR at h
      simp only [Bool.and_eq_true, decide_eq_true_eq] at h
      exact h.1
    have h2 : decide (a1 = 0) = false := by simp; omega
    simp [h2]
def OP_impl_Mod (f_impl_InRange : Int → Int → Int → Bool) : Orac := (orcX 31 [.val (.int .i64), .val (.int .i64), .val (.int .i64)] (fun d => true) (fun d => [⟨.bool, f_impl_InRange d.1 d.2.1 d.2.2.1⟩]) nilO)
def O_impl_Mod : Orac := OP_impl_Mod N.impl_InRange
def impl_Mod_P {ρ : Type} (f_impl_InRange : Int → Int → Int → Bool) (k : Int → Option ρ) (a0 : Int) (a1 : Int) : Option ρ := (cond (!(f_impl_InRange a1 (1 : Int) (1000000000000 : Int))) (k (0 : Int)) (cond (!(decide (a1 = 0))) (cond (!(decide (a1 = 0))) (k (Int.tmod (IntKind.wrap .i64 ((Int.tmod a0 a1) + a1)) a1)) none) none))
theorem ok_impl_Mod : OracOk Try.prog sigs O_impl_Mod := (orcX_ok rfl (fun d g => said_impl_InRange d.1 d.2.1 d.2.2.1) nilO_ok)
def A_impl_Mod : Ann := fun b => ⟨[], []⟩
theorem aP_impl_Mod (f_impl_InRange : Int → Int → Int → Bool) (n : Nat) (a0 : Int) (a1 : Int) : absF tab sigs (OP_impl_Mod f_impl_InRange) A_impl_Mod Try.f55 [((.int .i64), .no)] n [.val (.int .i64) a0, .val (.int .i64) a1] = impl_Mod_P f_impl_InRange (fun r0 => some [⟨(.int .i64), r0⟩])  a0 a1 := by kernel_rfl
theorem a_impl_Mod (n : Nat) (a0 : Int) (a1 : Int) : absF tab sigs O_impl_Mod A_impl_Mod Try.f55 [((.int .i64), .no)] n [.val (.int .i64) a0, .val (.int .i64) a1] = impl_Mod (fun r0 => some [⟨(.int .i64), r0⟩])  a0 a1 := aP_impl_Mod N.impl_InRange n a0 a1
theorem said_impl_Mod (a0 : Int) (a1 : Int) : Said Try.prog sigs_55 55 [.val (.int .i64) a0, .val (.int .i64) a1] [⟨(.int .i64), N.impl_Mod a0 a1⟩] := said_len (T := tab) (A := A_impl_Mod) tabOk ok_impl_Mod tabOk.follows Try.func55 (by kernel_rfl) (by kernel_rfl) (fun hl => ⟨0, (a_impl_Mod 0 a0 a1).trans (impl_Mod_ok (ρ := Ret) (fun r0 => some [⟨(.int .i64), r0⟩]) a0 a1)⟩)
/-! impl.Hash -/
abbrev N.impl_Hash (l : List Int) : Int := hash l
def impl_Hash_L0 {ρ : Type} (k : Int → Option ρ) (L0 : Int → (List Int) → Int → Int → Option ρ) (v0_0 : Int) (v0_1 : (List Int)) (v0_2 : Int) (v0_3 : Int) : Option ρ := (cond (decide (v0_3 < v0_2)) (cond (inRange v0_3 (List.length v0_1)) (L0 (Int.tmod (IntKind.wrap .i64 ((IntKind.wrap .i64 ((IntKind.wrap .i64 (v0_0 * (1000003 : Int))) + (N.impl_Mod (List.getD v0_1 (Int.toNat v0_3) (0 : Int)) (2147483647 : Int)))) + (13 : Int))) (2147483647 : Int)) v0_1 v0_2 (IntKind.wrap .i64 (v0_3 + (1 : Int)))) none) (k v0_0))
def impl_Hash {ρ : Type} (k : Int → Option ρ) (L0 : Int → (List Int) → Int → Int → Option ρ) (a0 : (List Int)) : Option ρ := (L0 (11 : Int) a0 (List.length a0 : Int) (0 : Int))
theorem impl_Hash_ok {ρ : Type} (k : Int → Option ρ) (a0 : (List Int)) (l_a0 : lnL (fun _ => True) a0) : ∃ n0, ∀ n, n0 ≤ n → ∀ (L0 : Nat → Int → (List Int) → Int → Int → Option ρ) (h0 : ∀ ( m : Nat) (v0_0 : Int) (v0_1 : (List Int)) (v0_2 : Int) (v0_3 : Int), L0 (m + 1) v0_0 v0_1 v0_2 v0_3 = impl_Hash_L0 k (L0 m) v0_0 v0_1 v0_2 v0_3), impl_Hash k (L0 n) a0 = k (N.impl_Hash a0) := by
  refine ⟨a0.length + 1, fun n hn L0 h0 => ?_⟩
  refine raw_foldl (a := a0) 0 hashStep (k := k) (L := fun m i s => L0 m s a0 (a0.length : Int) i) (R := fun i s c => impl_Hash_L0 k (fun s _ _ i => c i s) s a0 (a0.length : Int) i) (fun m i s => h0 m s a0 (a0.length : Int) i) (fun _ _ => True) (fun j s c hj _ => ?_) (fun _ _ _ _ => trivial) (fun s c => ?_) hn trivial
  · have : j < big := by have := l_a0.1; omega
    simp [impl_Hash_L0, lt_nat, inRange_nat, hj, wrap_succ this, hashStep]
  · simp [impl_Hash_L0]
def OP_impl_Hash (f_impl_Mod : Int → Int → Int) : Orac := (orcX 55 [.val (.int .i64), .val (.int .i64)] (fun d => true) (fun d => [⟨(.int .i64), f_impl_Mod d.1 d.2.1⟩]) nilO)
def O_impl_Hash : Orac := OP_impl_Hash N.impl_Mod
def impl_Hash_P_L0 {ρ : Type} (f_impl_Mod : Int → Int → Int) (k : Int → Option ρ) (L0 : Int → (List Int) → Int → Int → Option ρ) (v0_0 : Int) (v0_1 : (List Int)) (v0_2 : Int) (v0_3 : Int) : Option ρ := (cond (decide (v0_3 < v0_2)) (cond (inRange v0_3 (List.length v0_1)) (L0 (Int.tmod (IntKind.wrap .i64 ((IntKind.wrap .i64 ((IntKind.wrap .i64 (v0_0 * (1000003 : Int))) + (f_impl_Mod (List.getD v0_1 (Int.toNat v0_3) (0 : Int)) (2147483647 : Int)))) + (13 : Int))) (2147483647 : Int)) v0_1 v0_2 (IntKind.wrap .i64 (v0_3 + (1 : Int)))) none) (k v0_0))
def impl_Hash_P {ρ : Type} (f_impl_Mod : Int → Int → Int) (k : Int → Option ρ) (L0 : Int → (List Int) → Int → Int → Option ρ) (a0 : (List Int)) : Option ρ := (L0 (11 : Int) a0 (List.length a0 : Int) (0 : Int))
theorem ok_impl_Hash : OracOk Try.prog sigs O_impl_Hash := (orcX_ok rfl (fun d g => said_impl_Mod d.1 d.2.1) nilO_ok)
def A_impl_Hash : Ann := fun b => cond (Nat.beq b 0) ⟨[(3, false), (6, false), (7, false), (8, false)], []⟩ (⟨[], []⟩)
def S_impl_Hash_0 (v0_0 : Int) (v0_1 : (List Int)) (v0_2 : Int) (v0_3 : Int) : St := [(kT 3, some (.tv (.v (.int .i64) v0_0 .no))), (kT 6, some (.tv (.v (.slice 3 (.int .i64)) v0_1 .no))), (kT 7, some (.tv (.v (.int .i64) v0_2 .no))), (kT 8, some (.tv (.v (.int .i64) v0_3 .no)))]
noncomputable def L_P_impl_Hash_0 (f_impl_Mod : Int → Int → Int) (n m : Nat) : St → Option Ret := loopOf tab sigs (OP_impl_Hash f_impl_Mod) A_impl_Hash Try.f39 [((.int .i64), .no)] n (fun _ => 0) 0 m
noncomputable def L_impl_Hash_0 (n m : Nat) : St → Option Ret := L_P_impl_Hash_0 N.impl_Mod n m
theorem bP_impl_Hash_0 (f_impl_Mod : Int → Int → Int) (n m : Nat) (v0_0 : Int) (v0_1 : (List Int)) (v0_2 : Int) (v0_3 : Int) : L_P_impl_Hash_0 f_impl_Mod n (m + 1) (S_impl_Hash_0 v0_0 v0_1 v0_2 v0_3) = impl_Hash_P_L0 f_impl_Mod (fun r0 => some [⟨(.int .i64), r0⟩]) (fun v0_0 v0_1 v0_2 v0_3 => L_P_impl_Hash_0 f_impl_Mod n m (S_impl_Hash_0 v0_0 v0_1 v0_2 v0_3)) v0_0 v0_1 v0_2 v0_3 := by kernel_rfl
theorem b_impl_Hash_0 (n m : Nat) (v0_0 : Int) (v0_1 : (List Int)) (v0_2 : Int) (v0_3 : Int) : L_impl_Hash_0 n (m + 1) (S_impl_Hash_0 v0_0 v0_1 v0_2 v0_3) = impl_Hash_L0 (fun r0 => some [⟨(.int .i64), r0⟩]) (fun v0_0 v0_1 v0_2 v0_3 => L_impl_Hash_0 n m (S_impl_Hash_0 v0_0 v0_1 v0_2 v0_3)) v0_0 v0_1 v0_2 v0_3 := bP_impl_Hash_0 N.impl_Mod n m v0_0 v0_1 v0_2 v0_3
theorem aP_impl_Hash (f_impl_Mod : Int → Int → Int) (n : Nat) (a0 : (List Int)) : absF tab sigs (OP_impl_Hash f_impl_Mod) A_impl_Hash Try.f39 [((.int .i64), .no)] n [.val (.slice 3 (.int .i64)) a0] = impl_Hash_P f_impl_Mod (fun r0 => some [⟨(.int .i64), r0⟩]) (fun v0_0 v0_1 v0_2 v0_3 => L_P_impl_Hash_0 f_impl_Mod n n (S_impl_Hash_0 v0_0 v0_1 v0_2 v0_3)) a0 := by kernel_rfl
theorem a_impl_Hash (n : Nat) (a0 : (List Int)) : absF tab sigs O_impl_Hash A_impl_Hash Try.f39 [((.int .i64), .no)] n [.val (.slice 3 (.int .i64)) a0] = impl_Hash (fun r0 => some [⟨(.int .i64), r0⟩]) (fun v0_0 v0_1 v0_2 v0_3 => L_impl_Hash_0 n n (S_impl_Hash_0 v0_0 v0_1 v0_2 v0_3)) a0 := aP_impl_Hash N.impl_Mod n a0
theorem said_impl_Hash (a0 : (List Int)) : Said Try.prog sigs_39 39 [.val (.slice 3 (.int .i64)) a0] [⟨(.int .i64), N.impl_Hash a0⟩] := said_len (T := tab) (A := A_impl_Hash) tabOk ok_impl_Hash tabOk.follows Try.func39 (by kernel_rfl) (by kernel_rfl) (fun hl => let ⟨n, hn⟩ := impl_Hash_ok (ρ := Ret) (fun r0 => some [⟨(.int .i64), r0⟩]) a0 hl.1; ⟨n, (a_impl_Hash n a0).trans (hn n (Nat.le_refl n) (fun  m v0_0 v0_1 v0_2 v0_3 => L_impl_Hash_0 n  m (S_impl_Hash_0 v0_0 v0_1 v0_2 v0_3)) (fun  m v0_0 v0_1 v0_2 v0_3 => b_impl_Hash_0 n  m v0_0 v0_1 v0_2 v0_3))⟩)
/-! impl.HeadDigest -/
abbrev G.impl_HeadDigest (h : THead) : Bool := decide (wH h ≤ 1048576)
abbrev N.impl_HeadDigest (h : THead) : Int := headDigest h
def impl_HeadDigest {ρ : Type} (k : Int → Option ρ) (a0 : THead) : Option ρ := (cond (G.impl_HeadInts a0) (cond (fit (List.length [(233 : Int)]) (List.length (N.impl_HeadInts a0))) (k (N.impl_Hash (List.append [(233 : Int)] (N.impl_HeadInts a0)))) none) none)
theorem impl_HeadDigest_ok {ρ : Type} (k : Int → Option ρ) (a0 : THead) (l_a0 : (True ∧ (True ∧ (True ∧ (True ∧ (True ∧ (True ∧ (True ∧ (True ∧ ((lnL (fun _ => True) a0.2.2.2.2.2.2.2.2.1.1 ∧ True) ∧ ((lnL (fun _ => True) a0.2.2.2.2.2.2.2.2.2.1.1 ∧ True) ∧ (True ∧ ((lnL (fun _ => True) a0.2.2.2.2.2.2.2.2.2.2.2.1.1 ∧ True) ∧ True))))))))))))) (g : G.impl_HeadDigest a0 = true) : impl_HeadDigest k  a0 = k (N.impl_HeadDigest a0) := by
  unfold G.impl_HeadDigest at g
  have hw : wH a0 ≤ 1048576 := of_decide_eq_true g
  have f1 : fit 1 (headInts a0).length = true := fit_of (by rw [headInts_len]; omega)
  show cond (decide (wH a0 ≤ 1048576)) (cond (fit 1 (headInts a0).length) _ none) none = _
  rw [g, f1]
  rfl
def OP_impl_HeadDigest (f_impl_HeadInts : THead → (List Int)) (g_impl_HeadInts : THead → Bool) (f_impl_Hash : (List Int) → Int) : Orac := (orcX 39 [.val (.slice 3 (.int .i64))] (fun d => true) (fun d => [⟨(.int .i64), f_impl_Hash d.1⟩]) (orcX 15 [.val (.pair (.int .i64) (.pair (.int .i64) (.pair (.int .i64) (.pair (.int .i64) (.pair (.int .i64) (.pair (.int .i64) (.pair (.int .i64) (.pair (.int .i64) (.pair (.pair (.slice 3 (.int .i64)) (.int .i64)) (.pair (.pair (.slice 3 (.int .i64)) (.int .i64)) (.pair (.int .i64) (.pair (.pair (.slice 3 (.int .i64)) (.int .i64)) .bool))))))))))))] (fun d => g_impl_HeadInts d.1) (fun d => [⟨(.slice 3 (.int .i64)), f_impl_HeadInts d.1⟩]) nilO))
def O_impl_HeadDigest : Orac := OP_impl_HeadDigest N.impl_HeadInts G.impl_HeadInts N.impl_Hash
def impl_HeadDigest_P {ρ : Type} (f_impl_HeadInts : THead → (List Int)) (g_impl_HeadInts : THead → Bool) (f_impl_Hash : (List Int) → Int) (k : Int → Option ρ) (a0 : THead) : Option ρ := (cond (g_impl_HeadInts a0) (cond (fit (List.length [(233 : Int)]) (List.length (f_impl_HeadInts a0))) (k (f_impl_Hash (List.append [(233 : Int)] (f_impl_HeadInts a0)))) none) none)
theorem ok_impl_HeadDigest : OracOk Try.prog sigs O_impl_HeadDigest := (orcX_ok rfl (fun d g => said_impl_Hash d.1) (orcX_ok rfl (fun d g => said_impl_HeadInts d.1 g) nilO_ok))
def A_impl_HeadDigest : Ann := fun b => ⟨[], []⟩
theorem aP_impl_HeadDigest (f_impl_HeadInts : THead → (List Int)) (g_impl_HeadInts : THead → Bool) (f_impl_Hash : (List Int) → Int) (n : Nat) (a0 : THead) : absF tab sigs (OP_impl_HeadDigest f_impl_HeadInts g_impl_HeadInts f_impl_Hash) A_impl_HeadDigest Try.f21 [((.int .i64), .no)] n [.val (.pair (.int .i64) (.pair (.int .i64) (.pair (.int .i64) (.pair (.int .i64) (.pair (.int .i64) (.pair (.int .i64) (.pair (.int .i64) (.pair (.int .i64) (.pair (.pair (.slice 3 (.int .i64)) (.int .i64)) (.pair (.pair (.slice 3 (.int .i64)) (.int .i64)) (.pair (.int .i64) (.pair (.pair (.slice 3 (.int .i64)) (.int .i64)) .bool)))))))))))) a0] = impl_HeadDigest_P f_impl_HeadInts g_impl_HeadInts f_impl_Hash (fun r0 => some [⟨(.int .i64), r0⟩])  a0 := by kernel_rfl
theorem a_impl_HeadDigest (n : Nat) (a0 : THead) : absF tab sigs O_impl_HeadDigest A_impl_HeadDigest Try.f21 [((.int .i64), .no)] n [.val (.pair (.int .i64) (.pair (.int .i64) (.pair (.int .i64) (.pair (.int .i64) (.pair (.int .i64) (.pair (.int .i64) (.pair (.int .i64) (.pair (.int .i64) (.pair (.pair (.slice 3 (.int .i64)) (.int .i64)) (.pair (.pair (.slice 3 (.int .i64)) (.int .i64)) (.pair (.int .i64) (.pair (.pair (.slice 3 (.int .i64)) (.int .i64)) .bool)))))))))))) a0] = impl_HeadDigest (fun r0 => some [⟨(.int .i64), r0⟩])  a0 := aP_impl_HeadDigest N.impl_HeadInts G.impl_HeadInts N.impl_Hash n a0
theorem said_impl_HeadDigest (a0 : THead) (g : G.impl_HeadDigest a0 = true) : Said Try.prog sigs_21 21 [.val (.pair (.int .i64) (.pair (.int .i64) (.pair (.int .i64) (.pair (.int .i64) (.pair (.int .i64) (.pair (.int .i64) (.pair (.int .i64) (.pair (.int .i64) (.pair (.pair (.slice 3 (.int .i64)) (.int .i64)) (.pair (.pair (.slice 3 (.int .i64)) (.int .i64)) (.pair (.int .i64) (.pair (.pair (.slice 3 (.int .i64)) (.int .i64)) .bool)))))))))))) a0] [⟨(.int .i64), N.impl_HeadDigest a0⟩] := said_len (T := tab) (A := A_impl_HeadDigest) tabOk ok_impl_HeadDigest tabOk.follows Try.func21 (by kernel_rfl) (by kernel_rfl) (fun hl => ⟨0, (a_impl_HeadDigest 0 a0).trans (impl_HeadDigest_ok (ρ := Ret) (fun r0 => some [⟨(.int .i64), r0⟩]) a0 hl.1 g)⟩)
/-! laws.eqIntS -/
abbrev N.laws_eqIntS (a b : List Int) : Bool := eqInts a b
def laws_eqIntS_L0 {ρ : Type} (k : Bool → Option ρ) (L0 : (List Int) → (List Int) → Int → Option ρ) (v0_0 : (List Int)) (v0_1 : (List Int)) (v0_2 : Int) : Option ρ := (cond (decide (v0_2 < (List.length v0_0 : Int))) (cond (inRange v0_2 (List.length v0_0)) (cond (inRange v0_2 (List.length v0_1)) (cond ((List.getD v0_0 (Int.toNat v0_2) (0 : Int)) != (List.getD v0_1 (Int.toNat v0_2) (0 : Int))) (k false) (L0 v0_0 v0_1 (IntKind.wrap .i64 (v0_2 + (1 : Int))))) none) none) (k true))
def laws_eqIntS {ρ : Type} (k : Bool → Option ρ) (L0 : (List Int) → (List Int) → Int → Option ρ) (a0 : (List Int)) (a1 : (List Int)) : Option ρ := (cond ((List.length a0 : Int) != (List.length a1 : Int)) (k false) (L0 a0 a1 (0 : Int)))
theorem laws_eqIntS_ok {ρ : Type} (k : Bool → Option ρ) (a0 : (List Int)) (a1 : (List Int)) (l_a0 : lnL (fun _ => True) a0) (l_a1 : lnL (fun _ => True) a1) : ∃ n0, ∀ n, n0 ≤ n → ∀ (L0 : Nat → (List Int) → (List Int) → Int → Option ρ) (h0 : ∀ ( m : Nat) (v0_0 : (List Int)) (v0_1 : (List Int)) (v0_2 : Int), L0 (m + 1) v0_0 v0_1 v0_2 = laws_eqIntS_L0 k (L0 m) v0_0 v0_1 v0_2), laws_eqIntS k (L0 n) a0 a1 = k (N.laws_eqIntS a0 a1) := by
  exact ⟨a0.length + 1, fun n hn L0 h0 => eq_all (p := fun x y => x == y) (d := 0) l_a0.1 (L := fun m i => L0 m a0 a1 i) (fun m i => h0 m a0 a1 i) hn⟩
def O_laws_eqIntS : Orac := nilO
theorem ok_laws_eqIntS : OracOk Try.prog sigs O_laws_eqIntS := nilO_ok
def A_laws_eqIntS : Ann := fun b => cond (Nat.beq b 0) ⟨[(0, false), (1, false), (5, false)], []⟩ (⟨[], []⟩)
def S_laws_eqIntS_0 (v0_0 : (List Int)) (v0_1 : (List Int)) (v0_2 : Int) : St := [(kT 0, some (.tv (.v (.slice 3 (.int .i64)) v0_0 .no))), (kT 1, some (.tv (.v (.slice 3 (.int .i64)) v0_1 .no))), (kT 5, some (.tv (.v (.int .i64) v0_2 .no)))]
noncomputable def L_laws_eqIntS_0 (n m : Nat) : St → Option Ret := loopOf tab sigs O_laws_eqIntS A_laws_eqIntS Try.f16 [(.bool, .no)] n (fun _ => 0) 0 m
theorem b_laws_eqIntS_0 (n m : Nat) (v0_0 : (List Int)) (v0_1 : (List Int)) (v0_2 : Int) : L_laws_eqIntS_0 n (m + 1) (S_laws_eqIntS_0 v0_0 v0_1 v0_2) = laws_eqIntS_L0 (fun r0 => some [⟨.bool, r0⟩]) (fun v0_0 v0_1 v0_2 => L_laws_eqIntS_0 n m (S_laws_eqIntS_0 v0_0 v0_1 v0_2)) v0_0 v0_1 v0_2 := by kernel_rfl
theorem a_laws_eqIntS (n : Nat) (a0 : (List Int)) (a1 : (List Int)) : absF tab sigs O_laws_eqIntS A_laws_eqIntS Try.f16 [(.bool, .no)] n [.val (.slice 3 (.int .i64)) a0, .val (.slice 3 (.int .i64)) a1] = laws_eqIntS (fun r0 => some [⟨.bool, r0⟩]) (fun v0_0 v0_1 v0_2 => L_laws_eqIntS_0 n n (S_laws_eqIntS_0 v0_0 v0_1 v0_2)) a0 a1 := by kernel_rfl
theorem said_laws_eqIntS (a0 : (List Int)) (a1 : (List Int)) : Said Try.prog sigs_16 16 [.val (.slice 3 (.int .i64)) a0, .val (.slice 3 (.int .i64)) a1] [⟨.bool, N.laws_eqIntS a0 a1⟩] := said_len (T := tab) (A := A_laws_eqIntS) tabOk ok_laws_eqIntS tabOk.follows Try.func16 (by kernel_rfl) (by kernel_rfl) (fun hl => let ⟨n, hn⟩ := laws_eqIntS_ok (ρ := Ret) (fun r0 => some [⟨.bool, r0⟩]) a0 a1 hl.1 hl.2.1; ⟨n, (a_laws_eqIntS n a0 a1).trans (hn n (Nat.le_refl n) (fun  m v0_0 v0_1 v0_2 => L_laws_eqIntS_0 n  m (S_laws_eqIntS_0 v0_0 v0_1 v0_2)) (fun  m v0_0 v0_1 v0_2 => b_laws_eqIntS_0 n  m v0_0 v0_1 v0_2))⟩)
end Go.Proofs.Ytlaobplhnelniaa.Ref
