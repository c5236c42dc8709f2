/- Functions of the program: what each computes, and that it does so.
   Conditions: as each theorem states. -/
import Derived.Test.YthiiialbkppmnaaSA
set_option linter.unusedVariables false
set_option linter.unusedSimpArgs false
set_option maxRecDepth 100000
namespace Go.Proofs.Ythiiialbkppmnaa.Ref
open Go.RowKit Go.Proofs.YthiiialbkppmnaaW.PrintWords Go.Proofs.YthiiialbkppmnaaW.PrintLast
/-! laws.szStringS -/
abbrev G.laws_szStringS (a : List ByteArray) (left : Int) : Bool := gL left && bP a
abbrev N.laws_szStringS (a : List ByteArray) (left : Int) : Int := sub1 (wP a) left
def laws_szStringS_L0 {ρ : Type} (k : Int → Option ρ) (L0 : (List ByteArray) → Int → Int → Option ρ) (v0_0 : (List ByteArray)) (v0_1 : Int) (v0_2 : Int) : Option ρ := (cond (decide (v0_2 < (List.length v0_0 : Int))) (cond (inRange v0_2 (List.length v0_0)) (cond (decide ((IntKind.wrap .i64 (v0_1 - (ByteArray.size (List.getD v0_0 (Int.toNat v0_2) ByteArray.empty) : Int))) < (0 : Int))) (k (-1 : Int)) (L0 v0_0 (IntKind.wrap .i64 (v0_1 - (ByteArray.size (List.getD v0_0 (Int.toNat v0_2) ByteArray.empty) : Int))) (IntKind.wrap .i64 (v0_2 + (1 : Int))))) none) (k v0_1))
def laws_szStringS {ρ : Type} (k : Int → Option ρ) (L0 : (List ByteArray) → Int → Int → Option ρ) (a0 : (List ByteArray)) (a1 : Int) : Option ρ := (cond (decide ((IntKind.wrap .i64 (a1 - (List.length a0 : Int))) < (0 : Int))) (k (-1 : Int)) (L0 a0 (IntKind.wrap .i64 (a1 - (List.length a0 : Int))) (0 : Int)))
theorem laws_szStringS_ok {ρ : Type} (k : Int → Option ρ) (a0 : (List ByteArray)) (a1 : Int) (l_a0 : lnL (fun _ => True) a0) (g : G.laws_szStringS a0 a1 = true) : ∃ n0, ∀ n, n0 ≤ n → ∀ (L0 : Nat → (List ByteArray) → Int → Int → Option ρ) (h0 : ∀ ( m : Nat) (v0_0 : (List ByteArray)) (v0_1 : Int) (v0_2 : Int), L0 (m + 1) v0_0 v0_1 v0_2 = laws_szStringS_L0 k (L0 m) v0_0 v0_1 v0_2), laws_szStringS k (L0 n) a0 a1 = k (N.laws_szStringS a0 a1) := by
  unfold G.laws_szStringS at g
  replace g := (Bool.and_eq_true _ _).mp g
  refine ⟨a0.length + 1, fun n hn L0 h0 => ?_⟩
  refine sz_first (c := fun l => L0 n a0 l 0) g.1 l_a0.1 (fun g' => ?_)
  have g'' : 0 ≤ sub1 a0.length a1 ∧ sub1 a0.length a1 ≤ 1048576 := by simpa only [gL, Bool.and_eq_true, decide_eq_true_eq] using g'
  refine (loop_l (a := a0) (d := ByteArray.empty) l_a0.1 (L := fun m i s => L0 m a0 s i) (f := fun i x s c => cond (decide (IntKind.wrap .i64 (s - (x.size : Int)) < 0)) (k (-1)) (c (IntKind.wrap .i64 (s - (x.size : Int))))) (e := k) (fun m i s => h0 m a0 s i) hn).trans ?_
  refine foldI_sz (fun x => x.size ≤ 9223372036854775807) (fun i x s c hx hs0 hs1 => ?_) (fun s => rfl) a0 0 _ (fun x hx => by simpa using List.all_eq_true.1 g.2 x hx) g''.1 g''.2
  rw [wrap_sub hs0 hs1 (by omega) (by omega)]
  congr 1
  simp only [decide_eq_decide]
  omega
def O_laws_szStringS : Orac := nilO
theorem ok_laws_szStringS : OracOk Try.prog sigs O_laws_szStringS := nilO_ok
def A_laws_szStringS : Ann := fun b => cond (Nat.beq b 0) ⟨[(0, false), (1, false), (5, false)], []⟩ (⟨[], []⟩)
def S_laws_szStringS_0 (v0_0 : (List ByteArray)) (v0_1 : Int) (v0_2 : Int) : St := [(kT 0, some (.tv (.v (.slice 9 .str) v0_0 .no))), (kT 1, some (.tv (.v (.int .i64) v0_1 .no))), (kT 5, some (.tv (.v (.int .i64) v0_2 .no)))]
noncomputable def L_laws_szStringS_0 (n m : Nat) : St → Option Ret := loopOf tab sigs O_laws_szStringS A_laws_szStringS Try.f32 [((.int .i64), .no)] n (fun _ => 0) 0 m
theorem b_laws_szStringS_0 (n m : Nat) (v0_0 : (List ByteArray)) (v0_1 : Int) (v0_2 : Int) : L_laws_szStringS_0 n (m + 1) (S_laws_szStringS_0 v0_0 v0_1 v0_2) = laws_szStringS_L0 (fun r0 => some [⟨(.int .i64), r0⟩]) (fun v0_0 v0_1 v0_2 => L_laws_szStringS_0 n m (S_laws_szStringS_0 v0_0 v0_1 v0_2)) v0_0 v0_1 v0_2 := by kernel_rfl
theorem a_laws_szStringS (n : Nat) (a0 : (List ByteArray)) (a1 : Int) : absF tab sigs O_laws_szStringS A_laws_szStringS Try.f32 [((.int .i64), .no)] n [.val (.slice 9 .str) a0, .val (.int .i64) a1] = laws_szStringS (fun r0 => some [⟨(.int .i64), r0⟩]) (fun v0_0 v0_1 v0_2 => L_laws_szStringS_0 n n (S_laws_szStringS_0 v0_0 v0_1 v0_2)) a0 a1 := by kernel_rfl
theorem said_laws_szStringS (a0 : (List ByteArray)) (a1 : Int) (g : G.laws_szStringS a0 a1 = true) : Said Try.prog sigs_32 32 [.val (.slice 9 .str) a0, .val (.int .i64) a1] [⟨(.int .i64), N.laws_szStringS a0 a1⟩] := said_len (T := tab) (A := A_laws_szStringS) tabOk ok_laws_szStringS tabOk.follows Try.func32 (by kernel_rfl) (by kernel_rfl) (fun hl => let ⟨n, hn⟩ := laws_szStringS_ok (ρ := Ret) (fun r0 => some [⟨(.int .i64), r0⟩]) a0 a1 hl.1 g; ⟨n, (a_laws_szStringS n a0 a1).trans (hn n (Nat.le_refl n) (fun  m v0_0 v0_1 v0_2 => L_laws_szStringS_0 n  m (S_laws_szStringS_0 v0_0 v0_1 v0_2)) (fun  m v0_0 v0_1 v0_2 => b_laws_szStringS_0 n  m v0_0 v0_1 v0_2))⟩)
/-! laws.szEntry -/
abbrev G.laws_szEntry (a : TEntry) (left : Int) : Bool := gL left && bE a
abbrev N.laws_szEntry (a : TEntry) (left : Int) : Int := sub1 (wE a) left
def laws_szEntry {ρ : Type} (k : Int → Option ρ) (a0 : TEntry) (a1 : Int) : Option ρ := (cond (decide ((IntKind.wrap .i64 (a1 - (ByteArray.size a0.1 : Int))) < (0 : Int))) (k (-1 : Int)) (cond (G.laws_szStringS a0.2.2.2 (IntKind.wrap .i64 (a1 - (ByteArray.size a0.1 : Int)))) (cond (decide ((N.laws_szStringS a0.2.2.2 (IntKind.wrap .i64 (a1 - (ByteArray.size a0.1 : Int)))) < (0 : Int))) (k (-1 : Int)) (k (N.laws_szStringS a0.2.2.2 (IntKind.wrap .i64 (a1 - (ByteArray.size a0.1 : Int)))))) none))
theorem laws_szEntry_ok {ρ : Type} (k : Int → Option ρ) (a0 : TEntry) (a1 : Int) (l_a0 : (True ∧ (True ∧ (True ∧ lnL (fun _ => True) a0.2.2.2)))) (g : G.laws_szEntry a0 a1 = true) : laws_szEntry k  a0 a1 = k (N.laws_szEntry a0 a1) := by
  unfold G.laws_szEntry at g
  replace g := (Bool.and_eq_true _ _).mp g
  have g2 := (Bool.and_eq_true _ _).mp g.2
  refine sz_first (c := fun l => cond (gL l && bP a0.2.2.2) (cond (decide (sub1 (wP a0.2.2.2) l < 0)) (k (-1)) (k (sub1 (wP a0.2.2.2) l))) none) g.1 (of_decide_eq_true g2.1) (fun g1 => ?_)
  rw [g1, g2.2]
  exact sz_last
def OP_laws_szEntry (f_laws_szStringS : (List ByteArray) → Int → Int) (g_laws_szStringS : (List ByteArray) → Int → Bool) : Orac := (orcX 32 [.val (.slice 9 .str), .val (.int .i64)] (fun d => g_laws_szStringS d.1 d.2.1) (fun d => [⟨(.int .i64), f_laws_szStringS d.1 d.2.1⟩]) nilO)
def O_laws_szEntry : Orac := OP_laws_szEntry N.laws_szStringS G.laws_szStringS
def laws_szEntry_P {ρ : Type} (f_laws_szStringS : (List ByteArray) → Int → Int) (g_laws_szStringS : (List ByteArray) → Int → Bool) (k : Int → Option ρ) (a0 : TEntry) (a1 : Int) : Option ρ := (cond (decide ((IntKind.wrap .i64 (a1 - (ByteArray.size a0.1 : Int))) < (0 : Int))) (k (-1 : Int)) (cond (g_laws_szStringS a0.2.2.2 (IntKind.wrap .i64 (a1 - (ByteArray.size a0.1 : Int)))) (cond (decide ((f_laws_szStringS a0.2.2.2 (IntKind.wrap .i64 (a1 - (ByteArray.size a0.1 : Int)))) < (0 : Int))) (k (-1 : Int)) (k (f_laws_szStringS a0.2.2.2 (IntKind.wrap .i64 (a1 - (ByteArray.size a0.1 : Int)))))) none))
theorem ok_laws_szEntry : OracOk Try.prog sigs O_laws_szEntry := (orcX_ok rfl rfl (fun d g => said_laws_szStringS d.1 d.2.1 g) nilO_ok)
def A_laws_szEntry : Ann := fun b => ⟨[], []⟩
theorem aP_laws_szEntry (f_laws_szStringS : (List ByteArray) → Int → Int) (g_laws_szStringS : (List ByteArray) → Int → Bool) (n : Nat) (a0 : TEntry) (a1 : Int) : absF tab sigs (OP_laws_szEntry f_laws_szStringS g_laws_szStringS) A_laws_szEntry Try.f9 [((.int .i64), .no)] n [.val (.pair .str (.pair (.int .i64) (.pair (.int .i64) (.slice 9 .str)))) a0, .val (.int .i64) a1] = laws_szEntry_P f_laws_szStringS g_laws_szStringS (fun r0 => some [⟨(.int .i64), r0⟩])  a0 a1 := by kernel_rfl
theorem a_laws_szEntry (n : Nat) (a0 : TEntry) (a1 : Int) : absF tab sigs O_laws_szEntry A_laws_szEntry Try.f9 [((.int .i64), .no)] n [.val (.pair .str (.pair (.int .i64) (.pair (.int .i64) (.slice 9 .str)))) a0, .val (.int .i64) a1] = laws_szEntry (fun r0 => some [⟨(.int .i64), r0⟩])  a0 a1 := aP_laws_szEntry N.laws_szStringS G.laws_szStringS n a0 a1
theorem said_laws_szEntry (a0 : TEntry) (a1 : Int) (g : G.laws_szEntry a0 a1 = true) : Said Try.prog sigs_9 9 [.val (.pair .str (.pair (.int .i64) (.pair (.int .i64) (.slice 9 .str)))) a0, .val (.int .i64) a1] [⟨(.int .i64), N.laws_szEntry a0 a1⟩] := said_len (T := tab) (A := A_laws_szEntry) tabOk ok_laws_szEntry tabOk.follows Try.func9 (by kernel_rfl) (by kernel_rfl) (fun hl => ⟨0, (a_laws_szEntry 0 a0 a1).trans (laws_szEntry_ok (ρ := Ret) (fun r0 => some [⟨(.int .i64), r0⟩]) a0 a1 hl.1 g)⟩)
/-! laws.toStringS -/
abbrev G.laws_toStringS (a : List ByteArray) : Bool := decide (a.length ≤ 1048576)
abbrev N.laws_toStringS (a : List ByteArray) : List ByteArray := a
def laws_toStringS_L0 {ρ : Type} (k : (List ByteArray) → Option ρ) (L0 : (List ByteArray) → Int → (List ByteArray) → Option ρ) (v0_0 : (List ByteArray)) (v0_1 : Int) (v0_2 : (List ByteArray)) : Option ρ := (cond (decide (v0_1 < (List.length v0_0 : Int))) (cond (inRange v0_1 (List.length v0_0)) (cond (inRange v0_1 (List.length v0_2)) (cond (inRange v0_1 (List.length v0_2)) (L0 v0_0 (IntKind.wrap .i64 (v0_1 + (1 : Int))) (List.set v0_2 (Int.toNat v0_1) (List.getD v0_0 (Int.toNat v0_1) ByteArray.empty))) none) none) none) (k v0_2))
def laws_toStringS {ρ : Type} (k : (List ByteArray) → Option ρ) (L0 : (List ByteArray) → Int → (List ByteArray) → Option ρ) (a0 : (List ByteArray)) : Option ρ := (cond (decide (0 ≤ (List.length a0 : Int)) && decide ((List.length a0 : Int) ≤ 549755813888)) (L0 a0 (0 : Int) (List.replicate (Int.toNat (List.length a0 : Int)) ByteArray.empty)) none)
theorem laws_toStringS_ok {ρ : Type} (k : (List ByteArray) → Option ρ) (a0 : (List ByteArray)) (l_a0 : lnL (fun _ => True) a0) (g : G.laws_toStringS a0 = true) : ∃ n0, ∀ n, n0 ≤ n → ∀ (L0 : Nat → (List ByteArray) → Int → (List ByteArray) → Option ρ) (h0 : ∀ ( m : Nat) (v0_0 : (List ByteArray)) (v0_1 : Int) (v0_2 : (List ByteArray)), L0 (m + 1) v0_0 v0_1 v0_2 = laws_toStringS_L0 k (L0 m) v0_0 v0_1 v0_2), laws_toStringS k (L0 n) a0 = k (N.laws_toStringS a0) := by
  unfold G.laws_toStringS at g
  refine ⟨a0.length + 1, fun n hn L0 h0 => ?_⟩
  have g' : a0.length ≤ 1048576 := by simpa using g
  have hg : (decide (0 ≤ (a0.length : Int)) && decide ((a0.length : Int) ≤ 549755813888)) = true := by simp; omega
  show cond _ _ none = _
  rw [hg]
  refine (raw_copy (a := a0) ByteArray.empty ByteArray.empty (fun x => x) (k := k) (L := fun m i out => L0 m a0 i out) (R := fun i out c => laws_toStringS_L0 k (fun _ i out => c i out) a0 i out) (fun m i s => h0 m a0 i s) (fun j out c hj hl => ?_) (fun s c => ?_) hn).trans (by simp)
  · simp [laws_toStringS_L0, lt_nat, inRange_nat, hj, hl, wrap_succ (j := j) (by unfold big; omega)]
  · simp [laws_toStringS_L0]
def O_laws_toStringS : Orac := nilO
theorem ok_laws_toStringS : OracOk Try.prog sigs O_laws_toStringS := nilO_ok
def A_laws_toStringS : Ann := fun b => cond (Nat.beq b 0) ⟨[(0, false), (3, true), (4, false)], []⟩ (⟨[], []⟩)
def S_laws_toStringS_0 (v0_0 : (List ByteArray)) (v0_1 : Int) (v0_2 : (List ByteArray)) : St := [(kT 0, some (.tv (.v (.slice 9 .str) v0_0 .no))), (kT 3, some (.tv (.v (.slice 9 .str) [] (.own 24)))), (kT 4, some (.tv (.v (.int .i64) v0_1 .no))), (kR 24, some (.row 9 .str v0_2))]
noncomputable def L_laws_toStringS_0 (n m : Nat) : St → Option Ret := loopOf tab sigs O_laws_toStringS A_laws_toStringS Try.f34 [((.slice 9 .str), (.own 0))] n (fun _ => 0) 0 m
theorem b_laws_toStringS_0 (n m : Nat) (v0_0 : (List ByteArray)) (v0_1 : Int) (v0_2 : (List ByteArray)) : L_laws_toStringS_0 n (m + 1) (S_laws_toStringS_0 v0_0 v0_1 v0_2) = laws_toStringS_L0 (fun r0 => some [⟨(.slice 9 .str), r0⟩]) (fun v0_0 v0_1 v0_2 => L_laws_toStringS_0 n m (S_laws_toStringS_0 v0_0 v0_1 v0_2)) v0_0 v0_1 v0_2 := by kernel_rfl
theorem a_laws_toStringS (n : Nat) (a0 : (List ByteArray)) : absF tab sigs O_laws_toStringS A_laws_toStringS Try.f34 [((.slice 9 .str), (.own 0))] n [.val (.slice 9 .str) a0] = laws_toStringS (fun r0 => some [⟨(.slice 9 .str), r0⟩]) (fun v0_0 v0_1 v0_2 => L_laws_toStringS_0 n n (S_laws_toStringS_0 v0_0 v0_1 v0_2)) a0 := by kernel_rfl
theorem said_laws_toStringS (a0 : (List ByteArray)) (g : G.laws_toStringS a0 = true) : Said Try.prog sigs_34 34 [.val (.slice 9 .str) a0] [⟨(.slice 9 .str), N.laws_toStringS a0⟩] := said_len (T := tab) (A := A_laws_toStringS) tabOk ok_laws_toStringS tabOk.follows Try.func34 (by kernel_rfl) (by kernel_rfl) (fun hl => let ⟨n, hn⟩ := laws_toStringS_ok (ρ := Ret) (fun r0 => some [⟨(.slice 9 .str), r0⟩]) a0 hl.1 g; ⟨n, (a_laws_toStringS n a0).trans (hn n (Nat.le_refl n) (fun  m v0_0 v0_1 v0_2 => L_laws_toStringS_0 n  m (S_laws_toStringS_0 v0_0 v0_1 v0_2)) (fun  m v0_0 v0_1 v0_2 => b_laws_toStringS_0 n  m v0_0 v0_1 v0_2))⟩)
/-! laws.toEntry -/
abbrev G.laws_toEntry (a : TEntry) : Bool := decide (wE a ≤ 1048576)
abbrev N.laws_toEntry (a : TEntry) : TEntry := a
def laws_toEntry {ρ : Type} (k : TEntry → Option ρ) (a0 : TEntry) : Option ρ := (cond (G.laws_toStringS a0.2.2.2) (k (a0.1, (a0.2.1, (a0.2.2.1, (N.laws_toStringS a0.2.2.2))))) none)
theorem laws_toEntry_ok {ρ : Type} (k : TEntry → Option ρ) (a0 : TEntry) (l_a0 : (True ∧ (True ∧ (True ∧ lnL (fun _ => True) a0.2.2.2)))) (g : G.laws_toEntry a0 = true) : laws_toEntry k  a0 = k (N.laws_toEntry a0) := by
  unfold G.laws_toEntry at g
  have g' : wE a0 ≤ 1048576 := by simpa using g
  unfold wE wP at g'
  have g1 : decide (a0.2.2.2.length ≤ 1048576) = true := by simp; omega
  simp only [laws_toEntry, G.laws_toStringS, g1, cond_true]
def OP_laws_toEntry (f_laws_toStringS : (List ByteArray) → (List ByteArray)) (g_laws_toStringS : (List ByteArray) → Bool) : Orac := (orcX 34 [.val (.slice 9 .str)] (fun d => g_laws_toStringS d.1) (fun d => [⟨(.slice 9 .str), f_laws_toStringS d.1⟩]) nilO)
def O_laws_toEntry : Orac := OP_laws_toEntry N.laws_toStringS G.laws_toStringS
def laws_toEntry_P {ρ : Type} (f_laws_toStringS : (List ByteArray) → (List ByteArray)) (g_laws_toStringS : (List ByteArray) → Bool) (k : TEntry → Option ρ) (a0 : TEntry) : Option ρ := (cond (g_laws_toStringS a0.2.2.2) (k (a0.1, (a0.2.1, (a0.2.2.1, (f_laws_toStringS a0.2.2.2))))) none)
theorem ok_laws_toEntry : OracOk Try.prog sigs O_laws_toEntry := (orcX_ok rfl rfl (fun d g => said_laws_toStringS d.1 g) nilO_ok)
def A_laws_toEntry : Ann := fun b => ⟨[], []⟩
theorem aP_laws_toEntry (f_laws_toStringS : (List ByteArray) → (List ByteArray)) (g_laws_toStringS : (List ByteArray) → Bool) (n : Nat) (a0 : TEntry) : absF tab sigs (OP_laws_toEntry f_laws_toStringS g_laws_toStringS) A_laws_toEntry Try.f11 [((.pair .str (.pair (.int .i64) (.pair (.int .i64) (.slice 9 .str)))), (.pair .no (.pair .no (.pair .no (.own 0)))))] n [.val (.pair .str (.pair (.int .i64) (.pair (.int .i64) (.slice 9 .str)))) a0] = laws_toEntry_P f_laws_toStringS g_laws_toStringS (fun r0 => some [⟨(.pair .str (.pair (.int .i64) (.pair (.int .i64) (.slice 9 .str)))), r0⟩])  a0 := by kernel_rfl
theorem a_laws_toEntry (n : Nat) (a0 : TEntry) : absF tab sigs O_laws_toEntry A_laws_toEntry Try.f11 [((.pair .str (.pair (.int .i64) (.pair (.int .i64) (.slice 9 .str)))), (.pair .no (.pair .no (.pair .no (.own 0)))))] n [.val (.pair .str (.pair (.int .i64) (.pair (.int .i64) (.slice 9 .str)))) a0] = laws_toEntry (fun r0 => some [⟨(.pair .str (.pair (.int .i64) (.pair (.int .i64) (.slice 9 .str)))), r0⟩])  a0 := aP_laws_toEntry N.laws_toStringS G.laws_toStringS n a0
theorem said_laws_toEntry (a0 : TEntry) (g : G.laws_toEntry a0 = true) : Said Try.prog sigs_11 11 [.val (.pair .str (.pair (.int .i64) (.pair (.int .i64) (.slice 9 .str)))) a0] [⟨(.pair .str (.pair (.int .i64) (.pair (.int .i64) (.slice 9 .str)))), N.laws_toEntry a0⟩] := said_len (T := tab) (A := A_laws_toEntry) tabOk ok_laws_toEntry tabOk.follows Try.func11 (by kernel_rfl) (by kernel_rfl) (fun hl => ⟨0, (a_laws_toEntry 0 a0).trans (laws_toEntry_ok (ρ := Ret) (fun r0 => some [⟨(.pair .str (.pair (.int .i64) (.pair (.int .i64) (.slice 9 .str)))), r0⟩]) a0 hl.1 g)⟩)
/-! spec.BytesToInts -/
abbrev G.spec_BytesToInts (b : List Int) : Bool := decide (b.length ≤ 1048577)
abbrev N.spec_BytesToInts (b : List Int) : List Int := bytesInts b
def spec_BytesToInts_L0 {ρ : Type} (k : (List Int) → Option ρ) (L0 : (List Int) → Int → (List Int) → Option ρ) (v0_0 : (List Int)) (v0_1 : Int) (v0_2 : (List Int)) : Option ρ := (cond (decide (v0_1 < (List.length v0_0 : Int))) (cond (inRange v0_1 (List.length v0_0)) (cond (fit (List.length v0_2) (List.length [(IntKind.wrap .i64 (List.getD v0_0 (Int.toNat v0_1) (0 : Int)))])) (L0 v0_0 (IntKind.wrap .i64 (v0_1 + (1 : Int))) (List.append v0_2 [(IntKind.wrap .i64 (List.getD v0_0 (Int.toNat v0_1) (0 : Int)))])) none) none) (k v0_2))
def spec_BytesToInts {ρ : Type} (k : (List Int) → Option ρ) (L0 : (List Int) → Int → (List Int) → Option ρ) (a0 : (List Int)) : Option ρ := (L0 a0 (0 : Int) [(List.length a0 : Int)])
theorem spec_BytesToInts_ok {ρ : Type} (k : (List Int) → Option ρ) (a0 : (List Int)) (l_a0 : lnL (fun _ => True) a0) (g : G.spec_BytesToInts a0 = true) : ∃ n0, ∀ n, n0 ≤ n → ∀ (L0 : Nat → (List Int) → Int → (List Int) → Option ρ) (h0 : ∀ ( m : Nat) (v0_0 : (List Int)) (v0_1 : Int) (v0_2 : (List Int)), L0 (m + 1) v0_0 v0_1 v0_2 = spec_BytesToInts_L0 k (L0 m) v0_0 v0_1 v0_2), spec_BytesToInts k (L0 n) a0 = k (N.spec_BytesToInts a0) := by
  unfold G.spec_BytesToInts at g
  have hlen : a0.length ≤ 1048577 := of_decide_eq_true g
  refine ⟨a0.length + 1, fun n hn L0 h0 => ?_⟩
  refine (raw_foldl (a := a0) 0 (fun o x => o ++ [IntKind.wrap .i64 x]) (k := k) (s := [(a0.length : Int)]) (L := fun m i s => L0 m a0 i s) (R := fun i s c => spec_BytesToInts_L0 k (fun _ i s => c i s) a0 i s) (fun m i s => h0 m a0 i s) (fun j o => o.length ≤ j + 1) (fun j s c hj hI => ?_) (fun j s hj hI => by simp; exact hI) (fun s c => ?_) hn (by simp)).trans (by rw [foldl_app]; rfl)
  · have : j < big := by unfold big; omega
    have e3 : fit s.length 1 = true := fit_of (by omega)
    simp only [spec_BytesToInts_L0, lt_nat, inRange_nat, decide_eq_true hj, cond_true, Int.toNat_natCast, List.length_singleton, e3, wrap_succ this, List.append_eq]
  · simp [spec_BytesToInts_L0]
def O_spec_BytesToInts : Orac := nilO
theorem ok_spec_BytesToInts : OracOk Try.prog sigs O_spec_BytesToInts := nilO_ok
def A_spec_BytesToInts : Ann := fun b => cond (Nat.beq b 0) ⟨[(0, false), (3, true), (4, false)], []⟩ (⟨[], []⟩)
def S_spec_BytesToInts_0 (v0_0 : (List Int)) (v0_1 : Int) (v0_2 : (List Int)) : St := [(kT 0, some (.tv (.v (.slice 5 (.int .u8)) v0_0 .no))), (kT 3, some (.tv (.v (.slice 3 (.int .i64)) [] (.own 24)))), (kT 4, some (.tv (.v (.int .i64) v0_1 .no))), (kR 24, some (.row 3 (.int .i64) v0_2))]
noncomputable def L_spec_BytesToInts_0 (n m : Nat) : St → Option Ret := loopOf tab sigs O_spec_BytesToInts A_spec_BytesToInts Try.f54 [((.slice 3 (.int .i64)), (.own 0))] n (fun _ => 0) 0 m
theorem b_spec_BytesToInts_0 (n m : Nat) (v0_0 : (List Int)) (v0_1 : Int) (v0_2 : (List Int)) : L_spec_BytesToInts_0 n (m + 1) (S_spec_BytesToInts_0 v0_0 v0_1 v0_2) = spec_BytesToInts_L0 (fun r0 => some [⟨(.slice 3 (.int .i64)), r0⟩]) (fun v0_0 v0_1 v0_2 => L_spec_BytesToInts_0 n m (S_spec_BytesToInts_0 v0_0 v0_1 v0_2)) v0_0 v0_1 v0_2 := by kernel_rfl
theorem a_spec_BytesToInts (n : Nat) (a0 : (List Int)) : absF tab sigs O_spec_BytesToInts A_spec_BytesToInts Try.f54 [((.slice 3 (.int .i64)), (.own 0))] n [.val (.slice 5 (.int .u8)) a0] = spec_BytesToInts (fun r0 => some [⟨(.slice 3 (.int .i64)), r0⟩]) (fun v0_0 v0_1 v0_2 => L_spec_BytesToInts_0 n n (S_spec_BytesToInts_0 v0_0 v0_1 v0_2)) a0 := by kernel_rfl
theorem said_spec_BytesToInts (a0 : (List Int)) (g : G.spec_BytesToInts a0 = true) : Said Try.prog sigs_54 54 [.val (.slice 5 (.int .u8)) a0] [⟨(.slice 3 (.int .i64)), N.spec_BytesToInts a0⟩] := said_len (T := tab) (A := A_spec_BytesToInts) tabOk ok_spec_BytesToInts tabOk.follows Try.func54 (by kernel_rfl) (by kernel_rfl) (fun hl => let ⟨n, hn⟩ := spec_BytesToInts_ok (ρ := Ret) (fun r0 => some [⟨(.slice 3 (.int .i64)), r0⟩]) a0 hl.1 g; ⟨n, (a_spec_BytesToInts n a0).trans (hn n (Nat.le_refl n) (fun  m v0_0 v0_1 v0_2 => L_spec_BytesToInts_0 n  m (S_spec_BytesToInts_0 v0_0 v0_1 v0_2)) (fun  m v0_0 v0_1 v0_2 => b_spec_BytesToInts_0 n  m v0_0 v0_1 v0_2))⟩)
/-! spec.LabelInts -/
abbrev G.spec_LabelInts (s : ByteArray) : Bool := decide (s.size ≤ 1048576)
abbrev N.spec_LabelInts (s : ByteArray) : List Int := labelInts s
def spec_LabelInts {ρ : Type} (k : (List Int) → Option ρ) (a0 : ByteArray) : Option ρ := (cond (decide ((ByteArray.size a0 : Int) ≤ 549755813888)) (cond (G.spec_BytesToInts (bytesOf a0)) (k (N.spec_BytesToInts (bytesOf a0))) none) none)
theorem spec_LabelInts_ok {ρ : Type} (k : (List Int) → Option ρ) (a0 : ByteArray) (g : G.spec_LabelInts a0 = true) : spec_LabelInts k  a0 = k (N.spec_LabelInts a0) := by
  unfold G.spec_LabelInts at g
  have h : a0.size ≤ 1048576 := of_decide_eq_true g
  have h1 : decide ((a0.size : Int) ≤ 549755813888) = true := by simp; omega
  have h2 : G.spec_BytesToInts (bytesOf a0) = true := decide_eq_true (by rw [bytesOf_length]; omega)
  show cond _ (cond _ _ none) none = _
  rw [h1, h2]
  rfl
def OP_spec_LabelInts (f_spec_BytesToInts : (List Int) → (List Int)) (g_spec_BytesToInts : (List Int) → Bool) : Orac := (orcX 54 [.val (.slice 5 (.int .u8))] (fun d => g_spec_BytesToInts d.1) (fun d => [⟨(.slice 3 (.int .i64)), f_spec_BytesToInts d.1⟩]) nilO)
def O_spec_LabelInts : Orac := OP_spec_LabelInts N.spec_BytesToInts G.spec_BytesToInts
def spec_LabelInts_P {ρ : Type} (f_spec_BytesToInts : (List Int) → (List Int)) (g_spec_BytesToInts : (List Int) → Bool) (k : (List Int) → Option ρ) (a0 : ByteArray) : Option ρ := (cond (decide ((ByteArray.size a0 : Int) ≤ 549755813888)) (cond (g_spec_BytesToInts (bytesOf a0)) (k (f_spec_BytesToInts (bytesOf a0))) none) none)
theorem ok_spec_LabelInts : OracOk Try.prog sigs O_spec_LabelInts := (orcX_ok rfl rfl (fun d g => said_spec_BytesToInts d.1 g) nilO_ok)
def A_spec_LabelInts : Ann := fun b => ⟨[], []⟩
theorem aP_spec_LabelInts (f_spec_BytesToInts : (List Int) → (List Int)) (g_spec_BytesToInts : (List Int) → Bool) (n : Nat) (a0 : ByteArray) : absF tab sigs (OP_spec_LabelInts f_spec_BytesToInts g_spec_BytesToInts) A_spec_LabelInts Try.f33 [((.slice 3 (.int .i64)), (.own 0))] n [.val .str a0] = spec_LabelInts_P f_spec_BytesToInts g_spec_BytesToInts (fun r0 => some [⟨(.slice 3 (.int .i64)), r0⟩])  a0 := by kernel_rfl
theorem a_spec_LabelInts (n : Nat) (a0 : ByteArray) : absF tab sigs O_spec_LabelInts A_spec_LabelInts Try.f33 [((.slice 3 (.int .i64)), (.own 0))] n [.val .str a0] = spec_LabelInts (fun r0 => some [⟨(.slice 3 (.int .i64)), r0⟩])  a0 := aP_spec_LabelInts N.spec_BytesToInts G.spec_BytesToInts n a0
theorem said_spec_LabelInts (a0 : ByteArray) (g : G.spec_LabelInts a0 = true) : Said Try.prog sigs_33 33 [.val .str a0] [⟨(.slice 3 (.int .i64)), N.spec_LabelInts a0⟩] := said_len (T := tab) (A := A_spec_LabelInts) tabOk ok_spec_LabelInts tabOk.follows Try.func33 (by kernel_rfl) (by kernel_rfl) (fun hl => ⟨0, (a_spec_LabelInts 0 a0).trans (spec_LabelInts_ok (ρ := Ret) (fun r0 => some [⟨(.slice 3 (.int .i64)), r0⟩]) a0 g)⟩)
/-! spec.EntryInts -/
abbrev G.spec_EntryInts (e : TEntry) : Bool := decide (wE e ≤ 1048576)
abbrev N.spec_EntryInts (e : TEntry) : List Int := entryInts e
def spec_EntryInts_L0 {ρ : Type} (k : (List Int) → Option ρ) (L0 : Int → TEntry → (List Int) → Option ρ) (v0_0 : Int) (v0_1 : TEntry) (v0_2 : (List Int)) : Option ρ := (cond (decide (v0_0 < (List.length v0_1.2.2.2 : Int))) (cond (inRange v0_0 (List.length v0_1.2.2.2)) (cond (G.spec_LabelInts (List.getD v0_1.2.2.2 (Int.toNat v0_0) ByteArray.empty)) (cond (fit (List.length v0_2) (List.length (N.spec_LabelInts (List.getD v0_1.2.2.2 (Int.toNat v0_0) ByteArray.empty)))) (L0 (IntKind.wrap .i64 (v0_0 + (1 : Int))) v0_1 (List.append v0_2 (N.spec_LabelInts (List.getD v0_1.2.2.2 (Int.toNat v0_0) ByteArray.empty)))) none) none) none) (k v0_2))
def spec_EntryInts {ρ : Type} (k : (List Int) → Option ρ) (L0 : Int → TEntry → (List Int) → Option ρ) (a0 : TEntry) : Option ρ := (cond (G.spec_LabelInts a0.1) (cond (fit (List.length (N.spec_LabelInts a0.1)) (List.length [a0.2.1, a0.2.2.1, (List.length a0.2.2.2 : Int)])) (L0 (0 : Int) a0 (List.append (N.spec_LabelInts a0.1) [a0.2.1, a0.2.2.1, (List.length a0.2.2.2 : Int)])) none) none)
theorem spec_EntryInts_ok {ρ : Type} (k : (List Int) → Option ρ) (a0 : TEntry) (l_a0 : (True ∧ (True ∧ (True ∧ lnL (fun _ => True) a0.2.2.2)))) (g : G.spec_EntryInts a0 = true) : ∃ n0, ∀ n, n0 ≤ n → ∀ (L0 : Nat → Int → TEntry → (List Int) → Option ρ) (h0 : ∀ ( m : Nat) (v0_0 : Int) (v0_1 : TEntry) (v0_2 : (List Int)), L0 (m + 1) v0_0 v0_1 v0_2 = spec_EntryInts_L0 k (L0 m) v0_0 v0_1 v0_2), spec_EntryInts k (L0 n) a0 = k (N.spec_EntryInts a0) := by
  unfold G.spec_EntryInts at g
  have hw : wE a0 ≤ 1048576 := of_decide_eq_true g
  have hw2 : a0.1.size + (a0.2.2.2.length + wsum ByteArray.size a0.2.2.2) ≤ 1048576 := hw
  have g1 : decide (a0.1.size ≤ 1048576) = true := by simp; omega
  have f1 : fit (labelInts a0.1).length 3 = true := fit_of (by rw [labelInts_len]; omega)
  refine ⟨a0.2.2.2.length + 1, fun n hn L0 h0 => ?_⟩
  show cond (decide (a0.1.size ≤ 1048576)) (cond (fit (labelInts a0.1).length 3) (L0 n 0 a0 (labelInts a0.1 ++ [a0.2.1, a0.2.2.1, (a0.2.2.2.length : Int)])) none) none = k (entryInts a0)
  rw [g1, f1]
  have key := raw_run0 (σ := List Int) (L := fun m i s => L0 m i a0 s) (R := fun i s c => spec_EntryInts_L0 k (fun i _ s => c i s) i a0 s) (fun m i s => h0 m i a0 s) a0.2.2.2.length (fun j s => s.length + wP (a0.2.2.2.drop j) ≤ 4194304) (fun j s => k (s ++ (a0.2.2.2.drop j).flatMap labelInts)) (fun j s c hj hI hc => ?_) (fun s c _ => ?_) hn (s := labelInts a0.1 ++ [a0.2.1, a0.2.2.1, (a0.2.2.2.length : Int)]) (by rw [List.drop_zero, List.length_append, labelInts_len]; unfold wP; simp; omega)
  · rw [List.drop_zero] at key
    exact key
  · have hd := drop_cons ByteArray.empty hj
    have hp : wP (a0.2.2.2.drop j) = 1 + (a0.2.2.2.getD j ByteArray.empty).size + wP (a0.2.2.2.drop (j + 1)) := by
      rw [hd]
      unfold wP
      rw [List.length_cons]
      show _ + (_ + _) = _
      omega
    have hm := wsum_mem (wt := ByteArray.size) (getD_mem (d := ByteArray.empty) hj)
    have g2 : decide ((a0.2.2.2.getD j ByteArray.empty).size ≤ 1048576) = true := by simp only [decide_eq_true_eq]; omega
    have e3 : fit s.length (labelInts (a0.2.2.2.getD j ByteArray.empty)).length = true := fit_of (by rw [labelInts_len]; omega)
    have := hc (s ++ labelInts (a0.2.2.2.getD j ByteArray.empty)) (by rw [List.length_append, labelInts_len]; omega)
    simp only [spec_EntryInts_L0, lt_nat, inRange_nat, decide_eq_true hj, cond_true, Int.toNat_natCast, G.spec_LabelInts, N.spec_LabelInts, g2, e3, wrap_succ (j := j) (by unfold big; omega), List.append_eq, this]
    rw [hd]
    simp
  · simp [spec_EntryInts_L0]
def OP_spec_EntryInts (f_spec_LabelInts : ByteArray → (List Int)) (g_spec_LabelInts : ByteArray → Bool) : Orac := (orcX 33 [.val .str] (fun d => g_spec_LabelInts d.1) (fun d => [⟨(.slice 3 (.int .i64)), f_spec_LabelInts d.1⟩]) nilO)
def O_spec_EntryInts : Orac := OP_spec_EntryInts N.spec_LabelInts G.spec_LabelInts
def spec_EntryInts_P_L0 {ρ : Type} (f_spec_LabelInts : ByteArray → (List Int)) (g_spec_LabelInts : ByteArray → Bool) (k : (List Int) → Option ρ) (L0 : Int → TEntry → (List Int) → Option ρ) (v0_0 : Int) (v0_1 : TEntry) (v0_2 : (List Int)) : Option ρ := (cond (decide (v0_0 < (List.length v0_1.2.2.2 : Int))) (cond (inRange v0_0 (List.length v0_1.2.2.2)) (cond (g_spec_LabelInts (List.getD v0_1.2.2.2 (Int.toNat v0_0) ByteArray.empty)) (cond (fit (List.length v0_2) (List.length (f_spec_LabelInts (List.getD v0_1.2.2.2 (Int.toNat v0_0) ByteArray.empty)))) (L0 (IntKind.wrap .i64 (v0_0 + (1 : Int))) v0_1 (List.append v0_2 (f_spec_LabelInts (List.getD v0_1.2.2.2 (Int.toNat v0_0) ByteArray.empty)))) none) none) none) (k v0_2))
def spec_EntryInts_P {ρ : Type} (f_spec_LabelInts : ByteArray → (List Int)) (g_spec_LabelInts : ByteArray → Bool) (k : (List Int) → Option ρ) (L0 : Int → TEntry → (List Int) → Option ρ) (a0 : TEntry) : Option ρ := (cond (g_spec_LabelInts a0.1) (cond (fit (List.length (f_spec_LabelInts a0.1)) (List.length [a0.2.1, a0.2.2.1, (List.length a0.2.2.2 : Int)])) (L0 (0 : Int) a0 (List.append (f_spec_LabelInts a0.1) [a0.2.1, a0.2.2.1, (List.length a0.2.2.2 : Int)])) none) none)
theorem ok_spec_EntryInts : OracOk Try.prog sigs O_spec_EntryInts := (orcX_ok rfl rfl (fun d g => said_spec_LabelInts d.1 g) nilO_ok)
def A_spec_EntryInts : Ann := fun b => cond (Nat.beq b 0) ⟨[(1, false), (3, true), (4, false)], [(1, false)]⟩ (⟨[], []⟩)
def S_spec_EntryInts_0 (v0_0 : Int) (v0_1 : TEntry) (v0_2 : (List Int)) : St := [(kT 1, some (.tv (.box 1 []))), (kT 3, some (.tv (.v (.slice 3 (.int .i64)) [] (.own 24)))), (kT 4, some (.tv (.v (.int .i64) v0_0 .no))), (kB 1, some (.box (.pair .str (.pair (.int .i64) (.pair (.int .i64) (.slice 9 .str)))) v0_1 .no)), (kR 24, some (.row 3 (.int .i64) v0_2))]
noncomputable def L_P_spec_EntryInts_0 (f_spec_LabelInts : ByteArray → (List Int)) (g_spec_LabelInts : ByteArray → Bool) (n m : Nat) : St → Option Ret := loopOf tab sigs (OP_spec_EntryInts f_spec_LabelInts g_spec_LabelInts) A_spec_EntryInts Try.f10 [((.slice 3 (.int .i64)), (.own 0))] n (fun _ => 0) 0 m
noncomputable def L_spec_EntryInts_0 (n m : Nat) : St → Option Ret := L_P_spec_EntryInts_0 N.spec_LabelInts G.spec_LabelInts n m
theorem bP_spec_EntryInts_0 (f_spec_LabelInts : ByteArray → (List Int)) (g_spec_LabelInts : ByteArray → Bool) (n m : Nat) (v0_0 : Int) (v0_1 : TEntry) (v0_2 : (List Int)) : L_P_spec_EntryInts_0 f_spec_LabelInts g_spec_LabelInts n (m + 1) (S_spec_EntryInts_0 v0_0 v0_1 v0_2) = spec_EntryInts_P_L0 f_spec_LabelInts g_spec_LabelInts (fun r0 => some [⟨(.slice 3 (.int .i64)), r0⟩]) (fun v0_0 v0_1 v0_2 => L_P_spec_EntryInts_0 f_spec_LabelInts g_spec_LabelInts n m (S_spec_EntryInts_0 v0_0 v0_1 v0_2)) v0_0 v0_1 v0_2 := by kernel_rfl
theorem b_spec_EntryInts_0 (n m : Nat) (v0_0 : Int) (v0_1 : TEntry) (v0_2 : (List Int)) : L_spec_EntryInts_0 n (m + 1) (S_spec_EntryInts_0 v0_0 v0_1 v0_2) = spec_EntryInts_L0 (fun r0 => some [⟨(.slice 3 (.int .i64)), r0⟩]) (fun v0_0 v0_1 v0_2 => L_spec_EntryInts_0 n m (S_spec_EntryInts_0 v0_0 v0_1 v0_2)) v0_0 v0_1 v0_2 := bP_spec_EntryInts_0 N.spec_LabelInts G.spec_LabelInts n m v0_0 v0_1 v0_2
theorem aP_spec_EntryInts (f_spec_LabelInts : ByteArray → (List Int)) (g_spec_LabelInts : ByteArray → Bool) (n : Nat) (a0 : TEntry) : absF tab sigs (OP_spec_EntryInts f_spec_LabelInts g_spec_LabelInts) A_spec_EntryInts Try.f10 [((.slice 3 (.int .i64)), (.own 0))] n [.val (.pair .str (.pair (.int .i64) (.pair (.int .i64) (.slice 9 .str)))) a0] = spec_EntryInts_P f_spec_LabelInts g_spec_LabelInts (fun r0 => some [⟨(.slice 3 (.int .i64)), r0⟩]) (fun v0_0 v0_1 v0_2 => L_P_spec_EntryInts_0 f_spec_LabelInts g_spec_LabelInts n n (S_spec_EntryInts_0 v0_0 v0_1 v0_2)) a0 := by kernel_rfl
theorem a_spec_EntryInts (n : Nat) (a0 : TEntry) : absF tab sigs O_spec_EntryInts A_spec_EntryInts Try.f10 [((.slice 3 (.int .i64)), (.own 0))] n [.val (.pair .str (.pair (.int .i64) (.pair (.int .i64) (.slice 9 .str)))) a0] = spec_EntryInts (fun r0 => some [⟨(.slice 3 (.int .i64)), r0⟩]) (fun v0_0 v0_1 v0_2 => L_spec_EntryInts_0 n n (S_spec_EntryInts_0 v0_0 v0_1 v0_2)) a0 := aP_spec_EntryInts N.spec_LabelInts G.spec_LabelInts n a0
theorem said_spec_EntryInts (a0 : TEntry) (g : G.spec_EntryInts a0 = true) : Said Try.prog sigs_10 10 [.val (.pair .str (.pair (.int .i64) (.pair (.int .i64) (.slice 9 .str)))) a0] [⟨(.slice 3 (.int .i64)), N.spec_EntryInts a0⟩] := said_len (T := tab) (A := A_spec_EntryInts) tabOk ok_spec_EntryInts tabOk.follows Try.func10 (by kernel_rfl) (by kernel_rfl) (fun hl => let ⟨n, hn⟩ := spec_EntryInts_ok (ρ := Ret) (fun r0 => some [⟨(.slice 3 (.int .i64)), r0⟩]) a0 hl.1 g; ⟨n, (a_spec_EntryInts n a0).trans (hn n (Nat.le_refl n) (fun  m v0_0 v0_1 v0_2 => L_spec_EntryInts_0 n  m (S_spec_EntryInts_0 v0_0 v0_1 v0_2)) (fun  m v0_0 v0_1 v0_2 => b_spec_EntryInts_0 n  m v0_0 v0_1 v0_2))⟩)
/-! impl.BytesToInts -/
abbrev G.impl_BytesToInts (b : List Int) : Bool := decide (b.length ≤ 1048577)
abbrev N.impl_BytesToInts (b : List Int) : List Int := bytesInts b
def impl_BytesToInts_L0 {ρ : Type} (k : (List Int) → Option ρ) (L0 : (List Int) → Int → Int → (List Int) → Option ρ) (v0_0 : (List Int)) (v0_1 : Int) (v0_2 : Int) (v0_3 : (List Int)) : Option ρ := (cond (decide (v0_2 < v0_1)) (cond (inRange v0_2 (List.length v0_0)) (cond (fit (List.length v0_3) (List.length [(IntKind.wrap .i64 (List.getD v0_0 (Int.toNat v0_2) (0 : Int)))])) (L0 v0_0 v0_1 (IntKind.wrap .i64 (v0_2 + (1 : Int))) (List.append v0_3 [(IntKind.wrap .i64 (List.getD v0_0 (Int.toNat v0_2) (0 : Int)))])) none) none) (k v0_3))
def impl_BytesToInts {ρ : Type} (k : (List Int) → Option ρ) (L0 : (List Int) → Int → Int → (List Int) → Option ρ) (a0 : (List Int)) : Option ρ := (L0 a0 (List.length a0 : Int) (0 : Int) [(List.length a0 : Int)])
theorem impl_BytesToInts_ok {ρ : Type} (k : (List Int) → Option ρ) (a0 : (List Int)) (l_a0 : lnL (fun _ => True) a0) (g : G.impl_BytesToInts a0 = true) : ∃ n0, ∀ n, n0 ≤ n → ∀ (L0 : Nat → (List Int) → Int → Int → (List Int) → Option ρ) (h0 : ∀ ( m : Nat) (v0_0 : (List Int)) (v0_1 : Int) (v0_2 : Int) (v0_3 : (List Int)), L0 (m + 1) v0_0 v0_1 v0_2 v0_3 = impl_BytesToInts_L0 k (L0 m) v0_0 v0_1 v0_2 v0_3), impl_BytesToInts k (L0 n) a0 = k (N.impl_BytesToInts a0) := by
  unfold G.impl_BytesToInts at g
  have hlen : a0.length ≤ 1048577 := of_decide_eq_true g
  refine ⟨a0.length + 1, fun n hn L0 h0 => ?_⟩
  refine (raw_foldl (a := a0) 0 (fun o x => o ++ [IntKind.wrap .i64 x]) (k := k) (s := [(a0.length : Int)]) (L := fun m i s => L0 m a0 (a0.length : Int) i s) (R := fun i s c => impl_BytesToInts_L0 k (fun _ _ i s => c i s) a0 (a0.length : Int) i s) (fun m i s => h0 m a0 (a0.length : Int) i s) (fun j o => o.length ≤ j + 1) (fun j s c hj hI => ?_) (fun j s hj hI => by simp; exact hI) (fun s c => ?_) hn (by simp)).trans (by rw [foldl_app]; rfl)
  · have : j < big := by unfold big; omega
    have e3 : fit s.length 1 = true := fit_of (by omega)
    simp only [impl_BytesToInts_L0, lt_nat, inRange_nat, decide_eq_true hj, cond_true, Int.toNat_natCast, List.length_singleton, e3, wrap_succ this, List.append_eq]
  · simp [impl_BytesToInts_L0]
def O_impl_BytesToInts : Orac := nilO
theorem ok_impl_BytesToInts : OracOk Try.prog sigs O_impl_BytesToInts := nilO_ok
def A_impl_BytesToInts : Ann := fun b => cond (Nat.beq b 0) ⟨[(3, true), (9, false), (10, false), (11, false)], []⟩ (⟨[], []⟩)
def S_impl_BytesToInts_0 (v0_0 : (List Int)) (v0_1 : Int) (v0_2 : Int) (v0_3 : (List Int)) : St := [(kT 3, some (.tv (.v (.slice 3 (.int .i64)) [] (.own 24)))), (kT 9, some (.tv (.v (.slice 5 (.int .u8)) v0_0 .no))), (kT 10, some (.tv (.v (.int .i64) v0_1 .no))), (kT 11, some (.tv (.v (.int .i64) v0_2 .no))), (kR 24, some (.row 3 (.int .i64) v0_3))]
noncomputable def L_impl_BytesToInts_0 (n m : Nat) : St → Option Ret := loopOf tab sigs O_impl_BytesToInts A_impl_BytesToInts Try.f55 [((.slice 3 (.int .i64)), (.own 0))] n (fun _ => 0) 0 m
theorem b_impl_BytesToInts_0 (n m : Nat) (v0_0 : (List Int)) (v0_1 : Int) (v0_2 : Int) (v0_3 : (List Int)) : L_impl_BytesToInts_0 n (m + 1) (S_impl_BytesToInts_0 v0_0 v0_1 v0_2 v0_3) = impl_BytesToInts_L0 (fun r0 => some [⟨(.slice 3 (.int .i64)), r0⟩]) (fun v0_0 v0_1 v0_2 v0_3 => L_impl_BytesToInts_0 n m (S_impl_BytesToInts_0 v0_0 v0_1 v0_2 v0_3)) v0_0 v0_1 v0_2 v0_3 := by kernel_rfl
theorem a_impl_BytesToInts (n : Nat) (a0 : (List Int)) : absF tab sigs O_impl_BytesToInts A_impl_BytesToInts Try.f55 [((.slice 3 (.int .i64)), (.own 0))] n [.val (.slice 5 (.int .u8)) a0] = impl_BytesToInts (fun r0 => some [⟨(.slice 3 (.int .i64)), r0⟩]) (fun v0_0 v0_1 v0_2 v0_3 => L_impl_BytesToInts_0 n n (S_impl_BytesToInts_0 v0_0 v0_1 v0_2 v0_3)) a0 := by kernel_rfl
theorem said_impl_BytesToInts (a0 : (List Int)) (g : G.impl_BytesToInts a0 = true) : Said Try.prog sigs_55 55 [.val (.slice 5 (.int .u8)) a0] [⟨(.slice 3 (.int .i64)), N.impl_BytesToInts a0⟩] := said_len (T := tab) (A := A_impl_BytesToInts) tabOk ok_impl_BytesToInts tabOk.follows Try.func55 (by kernel_rfl) (by kernel_rfl) (fun hl => let ⟨n, hn⟩ := impl_BytesToInts_ok (ρ := Ret) (fun r0 => some [⟨(.slice 3 (.int .i64)), r0⟩]) a0 hl.1 g; ⟨n, (a_impl_BytesToInts n a0).trans (hn n (Nat.le_refl n) (fun  m v0_0 v0_1 v0_2 v0_3 => L_impl_BytesToInts_0 n  m (S_impl_BytesToInts_0 v0_0 v0_1 v0_2 v0_3)) (fun  m v0_0 v0_1 v0_2 v0_3 => b_impl_BytesToInts_0 n  m v0_0 v0_1 v0_2 v0_3))⟩)
/-! impl.LabelInts -/
abbrev G.impl_LabelInts (s : ByteArray) : Bool := decide (s.size ≤ 1048576)
abbrev N.impl_LabelInts (s : ByteArray) : List Int := labelInts s
def impl_LabelInts {ρ : Type} (k : (List Int) → Option ρ) (a0 : ByteArray) : Option ρ := (cond (decide ((ByteArray.size a0 : Int) ≤ 549755813888)) (cond (G.impl_BytesToInts (bytesOf a0)) (k (N.impl_BytesToInts (bytesOf a0))) none) none)
theorem impl_LabelInts_ok {ρ : Type} (k : (List Int) → Option ρ) (a0 : ByteArray) (g : G.impl_LabelInts a0 = true) : impl_LabelInts k  a0 = k (N.impl_LabelInts a0) := by
  unfold G.impl_LabelInts at g
  have h : a0.size ≤ 1048576 := of_decide_eq_true g
  have h1 : decide ((a0.size : Int) ≤ 549755813888) = true := by simp; omega
  have h2 : G.impl_BytesToInts (bytesOf a0) = true := decide_eq_true (by rw [bytesOf_length]; omega)
  show cond _ (cond _ _ none) none = _
  rw [h1, h2]
  rfl
def OP_impl_LabelInts (f_impl_BytesToInts : (List Int) → (List Int)) (g_impl_BytesToInts : (List Int) → Bool) : Orac := (orcX 55 [.val (.slice 5 (.int .u8))] (fun d => g_impl_BytesToInts d.1) (fun d => [⟨(.slice 3 (.int .i64)), f_impl_BytesToInts d.1⟩]) nilO)
def O_impl_LabelInts : Orac := OP_impl_LabelInts N.impl_BytesToInts G.impl_BytesToInts
def impl_LabelInts_P {ρ : Type} (f_impl_BytesToInts : (List Int) → (List Int)) (g_impl_BytesToInts : (List Int) → Bool) (k : (List Int) → Option ρ) (a0 : ByteArray) : Option ρ := (cond (decide ((ByteArray.size a0 : Int) ≤ 549755813888)) (cond (g_impl_BytesToInts (bytesOf a0)) (k (f_impl_BytesToInts (bytesOf a0))) none) none)
theorem ok_impl_LabelInts : OracOk Try.prog sigs O_impl_LabelInts := (orcX_ok rfl rfl (fun d g => said_impl_BytesToInts d.1 g) nilO_ok)
def A_impl_LabelInts : Ann := fun b => ⟨[], []⟩
theorem aP_impl_LabelInts (f_impl_BytesToInts : (List Int) → (List Int)) (g_impl_BytesToInts : (List Int) → Bool) (n : Nat) (a0 : ByteArray) : absF tab sigs (OP_impl_LabelInts f_impl_BytesToInts g_impl_BytesToInts) A_impl_LabelInts Try.f35 [((.slice 3 (.int .i64)), (.own 0))] n [.val .str a0] = impl_LabelInts_P f_impl_BytesToInts g_impl_BytesToInts (fun r0 => some [⟨(.slice 3 (.int .i64)), r0⟩])  a0 := by kernel_rfl
theorem a_impl_LabelInts (n : Nat) (a0 : ByteArray) : absF tab sigs O_impl_LabelInts A_impl_LabelInts Try.f35 [((.slice 3 (.int .i64)), (.own 0))] n [.val .str a0] = impl_LabelInts (fun r0 => some [⟨(.slice 3 (.int .i64)), r0⟩])  a0 := aP_impl_LabelInts N.impl_BytesToInts G.impl_BytesToInts n a0
theorem said_impl_LabelInts (a0 : ByteArray) (g : G.impl_LabelInts a0 = true) : Said Try.prog sigs_35 35 [.val .str a0] [⟨(.slice 3 (.int .i64)), N.impl_LabelInts a0⟩] := said_len (T := tab) (A := A_impl_LabelInts) tabOk ok_impl_LabelInts tabOk.follows Try.func35 (by kernel_rfl) (by kernel_rfl) (fun hl => ⟨0, (a_impl_LabelInts 0 a0).trans (impl_LabelInts_ok (ρ := Ret) (fun r0 => some [⟨(.slice 3 (.int .i64)), r0⟩]) a0 g)⟩)
/-! impl.EntryInts -/
abbrev G.impl_EntryInts (e : TEntry) : Bool := decide (wE e ≤ 1048576)
abbrev N.impl_EntryInts (e : TEntry) : List Int := entryInts e
def impl_EntryInts_L0 {ρ : Type} (k : (List Int) → Option ρ) (L0 : (List ByteArray) → Int → Int → (List Int) → Option ρ) (v0_0 : (List ByteArray)) (v0_1 : Int) (v0_2 : Int) (v0_3 : (List Int)) : Option ρ := (cond (decide (v0_2 < v0_1)) (cond (inRange v0_2 (List.length v0_0)) (cond (G.impl_LabelInts (List.getD v0_0 (Int.toNat v0_2) ByteArray.empty)) (cond (fit (List.length v0_3) (List.length (N.impl_LabelInts (List.getD v0_0 (Int.toNat v0_2) ByteArray.empty)))) (L0 v0_0 v0_1 (IntKind.wrap .i64 (v0_2 + (1 : Int))) (List.append v0_3 (N.impl_LabelInts (List.getD v0_0 (Int.toNat v0_2) ByteArray.empty)))) none) none) none) (k v0_3))
def impl_EntryInts {ρ : Type} (k : (List Int) → Option ρ) (L0 : (List ByteArray) → Int → Int → (List Int) → Option ρ) (a0 : TEntry) : Option ρ := (cond (G.impl_LabelInts a0.1) (cond (fit (List.length (N.impl_LabelInts a0.1)) (List.length [a0.2.1, a0.2.2.1, (List.length a0.2.2.2 : Int)])) (L0 a0.2.2.2 (List.length a0.2.2.2 : Int) (0 : Int) (List.append (N.impl_LabelInts a0.1) [a0.2.1, a0.2.2.1, (List.length a0.2.2.2 : Int)])) none) none)
theorem impl_EntryInts_ok {ρ : Type} (k : (List Int) → Option ρ) (a0 : TEntry) (l_a0 : (True ∧ (True ∧ (True ∧ lnL (fun _ => True) a0.2.2.2)))) (g : G.impl_EntryInts a0 = true) : ∃ n0, ∀ n, n0 ≤ n → ∀ (L0 : Nat → (List ByteArray) → Int → Int → (List Int) → Option ρ) (h0 : ∀ ( m : Nat) (v0_0 : (List ByteArray)) (v0_1 : Int) (v0_2 : Int) (v0_3 : (List Int)), L0 (m + 1) v0_0 v0_1 v0_2 v0_3 = impl_EntryInts_L0 k (L0 m) v0_0 v0_1 v0_2 v0_3), impl_EntryInts k (L0 n) a0 = k (N.impl_EntryInts a0) := by
  unfold G.impl_EntryInts at g
  have hw : wE a0 ≤ 1048576 := of_decide_eq_true g
  have hw2 : a0.1.size + (a0.2.2.2.length + wsum ByteArray.size a0.2.2.2) ≤ 1048576 := hw
  have g1 : decide (a0.1.size ≤ 1048576) = true := by simp; omega
  have f1 : fit (labelInts a0.1).length 3 = true := fit_of (by rw [labelInts_len]; omega)
  refine ⟨a0.2.2.2.length + 1, fun n hn L0 h0 => ?_⟩
  show cond (decide (a0.1.size ≤ 1048576)) (cond (fit (labelInts a0.1).length 3) (L0 n a0.2.2.2 (a0.2.2.2.length : Int) 0 (labelInts a0.1 ++ [a0.2.1, a0.2.2.1, (a0.2.2.2.length : Int)])) none) none = k (entryInts a0)
  rw [g1, f1]
  have key := raw_run0 (σ := List Int) (L := fun m i s => L0 m a0.2.2.2 (a0.2.2.2.length : Int) i s) (R := fun i s c => impl_EntryInts_L0 k (fun _ _ i s => c i s) a0.2.2.2 (a0.2.2.2.length : Int) i s) (fun m i s => h0 m a0.2.2.2 (a0.2.2.2.length : Int) i s) a0.2.2.2.length (fun j s => s.length + wP (a0.2.2.2.drop j) ≤ 4194304) (fun j s => k (s ++ (a0.2.2.2.drop j).flatMap labelInts)) (fun j s c hj hI hc => ?_) (fun s c _ => ?_) hn (s := labelInts a0.1 ++ [a0.2.1, a0.2.2.1, (a0.2.2.2.length : Int)]) (by rw [List.drop_zero, List.length_append, labelInts_len]; unfold wP; simp; omega)
  · rw [List.drop_zero] at key
    exact key
  · have hd := drop_cons ByteArray.empty hj
    have hp : wP (a0.2.2.2.drop j) = 1 + (a0.2.2.2.getD j ByteArray.empty).size + wP (a0.2.2.2.drop (j + 1)) := by
      rw [hd]
      unfold wP
      rw [List.length_cons]
      show _ + (_ + _) = _
      omega
    have hm := wsum_mem (wt := ByteArray.size) (getD_mem (d := ByteArray.empty) hj)
    have g2 : decide ((a0.2.2.2.getD j ByteArray.empty).size ≤ 1048576) = true := by simp only [decide_eq_true_eq]; omega
    have e3 : fit s.length (labelInts (a0.2.2.2.getD j ByteArray.empty)).length = true := fit_of (by rw [labelInts_len]; omega)
    have := hc (s ++ labelInts (a0.2.2.2.getD j ByteArray.empty)) (by rw [List.length_append, labelInts_len]; omega)
    simp only [impl_EntryInts_L0, lt_nat, inRange_nat, decide_eq_true hj, cond_true, Int.toNat_natCast, G.impl_LabelInts, N.impl_LabelInts, g2, e3, wrap_succ (j := j) (by unfold big; omega), List.append_eq, this]
    rw [hd]
    simp
  · simp [impl_EntryInts_L0]
def OP_impl_EntryInts (f_impl_LabelInts : ByteArray → (List Int)) (g_impl_LabelInts : ByteArray → Bool) : Orac := (orcX 35 [.val .str] (fun d => g_impl_LabelInts d.1) (fun d => [⟨(.slice 3 (.int .i64)), f_impl_LabelInts d.1⟩]) nilO)
def O_impl_EntryInts : Orac := OP_impl_EntryInts N.impl_LabelInts G.impl_LabelInts
def impl_EntryInts_P_L0 {ρ : Type} (f_impl_LabelInts : ByteArray → (List Int)) (g_impl_LabelInts : ByteArray → Bool) (k : (List Int) → Option ρ) (L0 : (List ByteArray) → Int → Int → (List Int) → Option ρ) (v0_0 : (List ByteArray)) (v0_1 : Int) (v0_2 : Int) (v0_3 : (List Int)) : Option ρ := (cond (decide (v0_2 < v0_1)) (cond (inRange v0_2 (List.length v0_0)) (cond (g_impl_LabelInts (List.getD v0_0 (Int.toNat v0_2) ByteArray.empty)) (cond (fit (List.length v0_3) (List.length (f_impl_LabelInts (List.getD v0_0 (Int.toNat v0_2) ByteArray.empty)))) (L0 v0_0 v0_1 (IntKind.wrap .i64 (v0_2 + (1 : Int))) (List.append v0_3 (f_impl_LabelInts (List.getD v0_0 (Int.toNat v0_2) ByteArray.empty)))) none) none) none) (k v0_3))
def impl_EntryInts_P {ρ : Type} (f_impl_LabelInts : ByteArray → (List Int)) (g_impl_LabelInts : ByteArray → Bool) (k : (List Int) → Option ρ) (L0 : (List ByteArray) → Int → Int → (List Int) → Option ρ) (a0 : TEntry) : Option ρ := (cond (g_impl_LabelInts a0.1) (cond (fit (List.length (f_impl_LabelInts a0.1)) (List.length [a0.2.1, a0.2.2.1, (List.length a0.2.2.2 : Int)])) (L0 a0.2.2.2 (List.length a0.2.2.2 : Int) (0 : Int) (List.append (f_impl_LabelInts a0.1) [a0.2.1, a0.2.2.1, (List.length a0.2.2.2 : Int)])) none) none)
theorem ok_impl_EntryInts : OracOk Try.prog sigs O_impl_EntryInts := (orcX_ok rfl rfl (fun d g => said_impl_LabelInts d.1 g) nilO_ok)
def A_impl_EntryInts : Ann := fun b => cond (Nat.beq b 0) ⟨[(3, true), (19, false), (20, false), (21, false)], []⟩ (⟨[], []⟩)
def S_impl_EntryInts_0 (v0_0 : (List ByteArray)) (v0_1 : Int) (v0_2 : Int) (v0_3 : (List Int)) : St := [(kT 3, some (.tv (.v (.slice 3 (.int .i64)) [] (.own 24)))), (kT 19, some (.tv (.v (.slice 9 .str) v0_0 .no))), (kT 20, some (.tv (.v (.int .i64) v0_1 .no))), (kT 21, some (.tv (.v (.int .i64) v0_2 .no))), (kR 24, some (.row 3 (.int .i64) v0_3))]
noncomputable def L_P_impl_EntryInts_0 (f_impl_LabelInts : ByteArray → (List Int)) (g_impl_LabelInts : ByteArray → Bool) (n m : Nat) : St → Option Ret := loopOf tab sigs (OP_impl_EntryInts f_impl_LabelInts g_impl_LabelInts) A_impl_EntryInts Try.f12 [((.slice 3 (.int .i64)), (.own 0))] n (fun _ => 0) 0 m
noncomputable def L_impl_EntryInts_0 (n m : Nat) : St → Option Ret := L_P_impl_EntryInts_0 N.impl_LabelInts G.impl_LabelInts n m
theorem bP_impl_EntryInts_0 (f_impl_LabelInts : ByteArray → (List Int)) (g_impl_LabelInts : ByteArray → Bool) (n m : Nat) (v0_0 : (List ByteArray)) (v0_1 : Int) (v0_2 : Int) (v0_3 : (List Int)) : L_P_impl_EntryInts_0 f_impl_LabelInts g_impl_LabelInts n (m + 1) (S_impl_EntryInts_0 v0_0 v0_1 v0_2 v0_3) = impl_EntryInts_P_L0 f_impl_LabelInts g_impl_LabelInts (fun r0 => some [⟨(.slice 3 (.int .i64)), r0⟩]) (fun v0_0 v0_1 v0_2 v0_3 => L_P_impl_EntryInts_0 f_impl_LabelInts g_impl_LabelInts n m (S_impl_EntryInts_0 v0_0 v0_1 v0_2 v0_3)) v0_0 v0_1 v0_2 v0_3 := by kernel_rfl
theorem b_impl_EntryInts_0 (n m : Nat) (v0_0 : (List ByteArray)) (v0_1 : Int) (v0_2 : Int) (v0_3 : (List Int)) : L_impl_EntryInts_0 n (m + 1) (S_impl_EntryInts_0 v0_0 v0_1 v0_2 v0_3) = impl_EntryInts_L0 (fun r0 => some [⟨(.slice 3 (.int .i64)), r0⟩]) (fun v0_0 v0_1 v0_2 v0_3 => L_impl_EntryInts_0 n m (S_impl_EntryInts_0 v0_0 v0_1 v0_2 v0_3)) v0_0 v0_1 v0_2 v0_3 := bP_impl_EntryInts_0 N.impl_LabelInts G.impl_LabelInts n m v0_0 v0_1 v0_2 v0_3
theorem aP_impl_EntryInts (f_impl_LabelInts : ByteArray → (List Int)) (g_impl_LabelInts : ByteArray → Bool) (n : Nat) (a0 : TEntry) : absF tab sigs (OP_impl_EntryInts f_impl_LabelInts g_impl_LabelInts) A_impl_EntryInts Try.f12 [((.slice 3 (.int .i64)), (.own 0))] n [.val (.pair .str (.pair (.int .i64) (.pair (.int .i64) (.slice 9 .str)))) a0] = impl_EntryInts_P f_impl_LabelInts g_impl_LabelInts (fun r0 => some [⟨(.slice 3 (.int .i64)), r0⟩]) (fun v0_0 v0_1 v0_2 v0_3 => L_P_impl_EntryInts_0 f_impl_LabelInts g_impl_LabelInts n n (S_impl_EntryInts_0 v0_0 v0_1 v0_2 v0_3)) a0 := by kernel_rfl
theorem a_impl_EntryInts (n : Nat) (a0 : TEntry) : absF tab sigs O_impl_EntryInts A_impl_EntryInts Try.f12 [((.slice 3 (.int .i64)), (.own 0))] n [.val (.pair .str (.pair (.int .i64) (.pair (.int .i64) (.slice 9 .str)))) a0] = impl_EntryInts (fun r0 => some [⟨(.slice 3 (.int .i64)), r0⟩]) (fun v0_0 v0_1 v0_2 v0_3 => L_impl_EntryInts_0 n n (S_impl_EntryInts_0 v0_0 v0_1 v0_2 v0_3)) a0 := aP_impl_EntryInts N.impl_LabelInts G.impl_LabelInts n a0
theorem said_impl_EntryInts (a0 : TEntry) (g : G.impl_EntryInts a0 = true) : Said Try.prog sigs_12 12 [.val (.pair .str (.pair (.int .i64) (.pair (.int .i64) (.slice 9 .str)))) a0] [⟨(.slice 3 (.int .i64)), N.impl_EntryInts a0⟩] := said_len (T := tab) (A := A_impl_EntryInts) tabOk ok_impl_EntryInts tabOk.follows Try.func12 (by kernel_rfl) (by kernel_rfl) (fun hl => let ⟨n, hn⟩ := impl_EntryInts_ok (ρ := Ret) (fun r0 => some [⟨(.slice 3 (.int .i64)), r0⟩]) a0 hl.1 g; ⟨n, (a_impl_EntryInts n a0).trans (hn n (Nat.le_refl n) (fun  m v0_0 v0_1 v0_2 v0_3 => L_impl_EntryInts_0 n  m (S_impl_EntryInts_0 v0_0 v0_1 v0_2 v0_3)) (fun  m v0_0 v0_1 v0_2 v0_3 => b_impl_EntryInts_0 n  m v0_0 v0_1 v0_2 v0_3))⟩)
/-! laws.eqIntS -/
abbrev N.laws_eqIntS (a b : List Int) : Bool := eqInts a b
def laws_eqIntS_L0 {ρ : Type} (k : Bool → Option ρ) (L0 : (List Int) → (List Int) → Int → Option ρ) (v0_0 : (List Int)) (v0_1 : (List Int)) (v0_2 : Int) : Option ρ := (cond (decide (v0_2 < (List.length v0_0 : Int))) (cond (inRange v0_2 (List.length v0_0)) (cond (inRange v0_2 (List.length v0_1)) (cond ((List.getD v0_0 (Int.toNat v0_2) (0 : Int)) != (List.getD v0_1 (Int.toNat v0_2) (0 : Int))) (k false) (L0 v0_0 v0_1 (IntKind.wrap .i64 (v0_2 + (1 : Int))))) none) none) (k true))
def laws_eqIntS {ρ : Type} (k : Bool → Option ρ) (L0 : (List Int) → (List Int) → Int → Option ρ) (a0 : (List Int)) (a1 : (List Int)) : Option ρ := (cond ((List.length a0 : Int) != (List.length a1 : Int)) (k false) (L0 a0 a1 (0 : Int)))
theorem laws_eqIntS_ok {ρ : Type} (k : Bool → Option ρ) (a0 : (List Int)) (a1 : (List Int)) (l_a0 : lnL (fun _ => True) a0) (l_a1 : lnL (fun _ => True) a1) : ∃ n0, ∀ n, n0 ≤ n → ∀ (L0 : Nat → (List Int) → (List Int) → Int → Option ρ) (h0 : ∀ ( m : Nat) (v0_0 : (List Int)) (v0_1 : (List Int)) (v0_2 : Int), L0 (m + 1) v0_0 v0_1 v0_2 = laws_eqIntS_L0 k (L0 m) v0_0 v0_1 v0_2), laws_eqIntS k (L0 n) a0 a1 = k (N.laws_eqIntS a0 a1) := by
  exact ⟨a0.length + 1, fun n hn L0 h0 => eq_all (p := fun x y => x == y) (d := 0) l_a0.1 (L := fun m i => L0 m a0 a1 i) (fun m i => h0 m a0 a1 i) hn⟩
def O_laws_eqIntS : Orac := nilO
theorem ok_laws_eqIntS : OracOk Try.prog sigs O_laws_eqIntS := nilO_ok
def A_laws_eqIntS : Ann := fun b => cond (Nat.beq b 0) ⟨[(0, false), (1, false), (5, false)], []⟩ (⟨[], []⟩)
def S_laws_eqIntS_0 (v0_0 : (List Int)) (v0_1 : (List Int)) (v0_2 : Int) : St := [(kT 0, some (.tv (.v (.slice 3 (.int .i64)) v0_0 .no))), (kT 1, some (.tv (.v (.slice 3 (.int .i64)) v0_1 .no))), (kT 5, some (.tv (.v (.int .i64) v0_2 .no)))]
noncomputable def L_laws_eqIntS_0 (n m : Nat) : St → Option Ret := loopOf tab sigs O_laws_eqIntS A_laws_eqIntS Try.f13 [(.bool, .no)] n (fun _ => 0) 0 m
theorem b_laws_eqIntS_0 (n m : Nat) (v0_0 : (List Int)) (v0_1 : (List Int)) (v0_2 : Int) : L_laws_eqIntS_0 n (m + 1) (S_laws_eqIntS_0 v0_0 v0_1 v0_2) = laws_eqIntS_L0 (fun r0 => some [⟨.bool, r0⟩]) (fun v0_0 v0_1 v0_2 => L_laws_eqIntS_0 n m (S_laws_eqIntS_0 v0_0 v0_1 v0_2)) v0_0 v0_1 v0_2 := by kernel_rfl
theorem a_laws_eqIntS (n : Nat) (a0 : (List Int)) (a1 : (List Int)) : absF tab sigs O_laws_eqIntS A_laws_eqIntS Try.f13 [(.bool, .no)] n [.val (.slice 3 (.int .i64)) a0, .val (.slice 3 (.int .i64)) a1] = laws_eqIntS (fun r0 => some [⟨.bool, r0⟩]) (fun v0_0 v0_1 v0_2 => L_laws_eqIntS_0 n n (S_laws_eqIntS_0 v0_0 v0_1 v0_2)) a0 a1 := by kernel_rfl
theorem said_laws_eqIntS (a0 : (List Int)) (a1 : (List Int)) : Said Try.prog sigs_13 13 [.val (.slice 3 (.int .i64)) a0, .val (.slice 3 (.int .i64)) a1] [⟨.bool, N.laws_eqIntS a0 a1⟩] := said_len (T := tab) (A := A_laws_eqIntS) tabOk ok_laws_eqIntS tabOk.follows Try.func13 (by kernel_rfl) (by kernel_rfl) (fun hl => let ⟨n, hn⟩ := laws_eqIntS_ok (ρ := Ret) (fun r0 => some [⟨.bool, r0⟩]) a0 a1 hl.1 hl.2.1; ⟨n, (a_laws_eqIntS n a0 a1).trans (hn n (Nat.le_refl n) (fun  m v0_0 v0_1 v0_2 => L_laws_eqIntS_0 n  m (S_laws_eqIntS_0 v0_0 v0_1 v0_2)) (fun  m v0_0 v0_1 v0_2 => b_laws_eqIntS_0 n  m v0_0 v0_1 v0_2))⟩)
/-! laws.eqStringS -/
abbrev N.laws_eqStringS (a b : List ByteArray) : Bool := eqStrs a b
def laws_eqStringS_L0 {ρ : Type} (k : Bool → Option ρ) (L0 : (List ByteArray) → (List ByteArray) → Int → Option ρ) (v0_0 : (List ByteArray)) (v0_1 : (List ByteArray)) (v0_2 : Int) : Option ρ := (cond (decide (v0_2 < (List.length v0_0 : Int))) (cond (inRange v0_2 (List.length v0_0)) (cond (inRange v0_2 (List.length v0_1)) (cond (!((ByteArray.toList (List.getD v0_0 (Int.toNat v0_2) ByteArray.empty)) == (ByteArray.toList (List.getD v0_1 (Int.toNat v0_2) ByteArray.empty)))) (k false) (L0 v0_0 v0_1 (IntKind.wrap .i64 (v0_2 + (1 : Int))))) none) none) (k true))
def laws_eqStringS {ρ : Type} (k : Bool → Option ρ) (L0 : (List ByteArray) → (List ByteArray) → Int → Option ρ) (a0 : (List ByteArray)) (a1 : (List ByteArray)) : Option ρ := (cond ((List.length a0 : Int) != (List.length a1 : Int)) (k false) (L0 a0 a1 (0 : Int)))
theorem laws_eqStringS_ok {ρ : Type} (k : Bool → Option ρ) (a0 : (List ByteArray)) (a1 : (List ByteArray)) (l_a0 : lnL (fun _ => True) a0) (l_a1 : lnL (fun _ => True) a1) : ∃ n0, ∀ n, n0 ≤ n → ∀ (L0 : Nat → (List ByteArray) → (List ByteArray) → Int → Option ρ) (h0 : ∀ ( m : Nat) (v0_0 : (List ByteArray)) (v0_1 : (List ByteArray)) (v0_2 : Int), L0 (m + 1) v0_0 v0_1 v0_2 = laws_eqStringS_L0 k (L0 m) v0_0 v0_1 v0_2), laws_eqStringS k (L0 n) a0 a1 = k (N.laws_eqStringS a0 a1) := by
  exact ⟨a0.length + 1, fun n hn L0 h0 => eq_all (p := eqStr) (d := ByteArray.empty) l_a0.1 (L := fun m i => L0 m a0 a1 i) (fun m i => h0 m a0 a1 i) hn⟩
def O_laws_eqStringS : Orac := nilO
theorem ok_laws_eqStringS : OracOk Try.prog sigs O_laws_eqStringS := nilO_ok
def A_laws_eqStringS : Ann := fun b => cond (Nat.beq b 0) ⟨[(0, false), (1, false), (5, false)], []⟩ (⟨[], []⟩)
def S_laws_eqStringS_0 (v0_0 : (List ByteArray)) (v0_1 : (List ByteArray)) (v0_2 : Int) : St := [(kT 0, some (.tv (.v (.slice 9 .str) v0_0 .no))), (kT 1, some (.tv (.v (.slice 9 .str) v0_1 .no))), (kT 5, some (.tv (.v (.int .i64) v0_2 .no)))]
noncomputable def L_laws_eqStringS_0 (n m : Nat) : St → Option Ret := loopOf tab sigs O_laws_eqStringS A_laws_eqStringS Try.f36 [(.bool, .no)] n (fun _ => 0) 0 m
theorem b_laws_eqStringS_0 (n m : Nat) (v0_0 : (List ByteArray)) (v0_1 : (List ByteArray)) (v0_2 : Int) : L_laws_eqStringS_0 n (m + 1) (S_laws_eqStringS_0 v0_0 v0_1 v0_2) = laws_eqStringS_L0 (fun r0 => some [⟨.bool, r0⟩]) (fun v0_0 v0_1 v0_2 => L_laws_eqStringS_0 n m (S_laws_eqStringS_0 v0_0 v0_1 v0_2)) v0_0 v0_1 v0_2 := by kernel_rfl
theorem a_laws_eqStringS (n : Nat) (a0 : (List ByteArray)) (a1 : (List ByteArray)) : absF tab sigs O_laws_eqStringS A_laws_eqStringS Try.f36 [(.bool, .no)] n [.val (.slice 9 .str) a0, .val (.slice 9 .str) a1] = laws_eqStringS (fun r0 => some [⟨.bool, r0⟩]) (fun v0_0 v0_1 v0_2 => L_laws_eqStringS_0 n n (S_laws_eqStringS_0 v0_0 v0_1 v0_2)) a0 a1 := by kernel_rfl
theorem said_laws_eqStringS (a0 : (List ByteArray)) (a1 : (List ByteArray)) : Said Try.prog sigs_36 36 [.val (.slice 9 .str) a0, .val (.slice 9 .str) a1] [⟨.bool, N.laws_eqStringS a0 a1⟩] := said_len (T := tab) (A := A_laws_eqStringS) tabOk ok_laws_eqStringS tabOk.follows Try.func36 (by kernel_rfl) (by kernel_rfl) (fun hl => let ⟨n, hn⟩ := laws_eqStringS_ok (ρ := Ret) (fun r0 => some [⟨.bool, r0⟩]) a0 a1 hl.1 hl.2.1; ⟨n, (a_laws_eqStringS n a0 a1).trans (hn n (Nat.le_refl n) (fun  m v0_0 v0_1 v0_2 => L_laws_eqStringS_0 n  m (S_laws_eqStringS_0 v0_0 v0_1 v0_2)) (fun  m v0_0 v0_1 v0_2 => b_laws_eqStringS_0 n  m v0_0 v0_1 v0_2))⟩)
/-! laws.eqEntry -/
abbrev N.laws_eqEntry (a b : TEntry) : Bool := eqEntry a b
def laws_eqEntry {ρ : Type} (k : Bool → Option ρ) (a0 : TEntry) (a1 : TEntry) : Option ρ := (cond (!((ByteArray.toList a0.1) == (ByteArray.toList a1.1))) (k false) (cond (a0.2.1 != a1.2.1) (k false) (cond (a0.2.2.1 != a1.2.2.1) (k false) (cond (!(N.laws_eqStringS a0.2.2.2 a1.2.2.2)) (k false) (k true)))))
theorem laws_eqEntry_ok {ρ : Type} (k : Bool → Option ρ) (a0 : TEntry) (a1 : TEntry) (l_a0 : (True ∧ (True ∧ (True ∧ lnL (fun _ => True) a0.2.2.2)))) (l_a1 : (True ∧ (True ∧ (True ∧ lnL (fun _ => True) a1.2.2.2)))) : laws_eqEntry k  a0 a1 = k (N.laws_eqEntry a0 a1) := by
  simp only [laws_eqEntry, N.laws_eqEntry, N.laws_eqStringS, eqEntry, eqStr, bne]
  cases a0.1.toList == a1.1.toList
  · rfl
  cases a0.2.1 == a1.2.1
  · rfl
  cases a0.2.2.1 == a1.2.2.1
  · rfl
  cases eqStrs a0.2.2.2 a1.2.2.2 <;> rfl
def OP_laws_eqEntry (f_laws_eqStringS : (List ByteArray) → (List ByteArray) → Bool) : Orac := (orcX 36 [.val (.slice 9 .str), .val (.slice 9 .str)] (fun d => true) (fun d => [⟨.bool, f_laws_eqStringS d.1 d.2.1⟩]) nilO)
def O_laws_eqEntry : Orac := OP_laws_eqEntry N.laws_eqStringS
def laws_eqEntry_P {ρ : Type} (f_laws_eqStringS : (List ByteArray) → (List ByteArray) → Bool) (k : Bool → Option ρ) (a0 : TEntry) (a1 : TEntry) : Option ρ := (cond (!((ByteArray.toList a0.1) == (ByteArray.toList a1.1))) (k false) (cond (a0.2.1 != a1.2.1) (k false) (cond (a0.2.2.1 != a1.2.2.1) (k false) (cond (!(f_laws_eqStringS a0.2.2.2 a1.2.2.2)) (k false) (k true)))))
theorem ok_laws_eqEntry : OracOk Try.prog sigs O_laws_eqEntry := (orcX_ok rfl rfl (fun d g => said_laws_eqStringS d.1 d.2.1) nilO_ok)
def A_laws_eqEntry : Ann := fun b => ⟨[], []⟩
theorem aP_laws_eqEntry (f_laws_eqStringS : (List ByteArray) → (List ByteArray) → Bool) (n : Nat) (a0 : TEntry) (a1 : TEntry) : absF tab sigs (OP_laws_eqEntry f_laws_eqStringS) A_laws_eqEntry Try.f14 [(.bool, .no)] n [.val (.pair .str (.pair (.int .i64) (.pair (.int .i64) (.slice 9 .str)))) a0, .val (.pair .str (.pair (.int .i64) (.pair (.int .i64) (.slice 9 .str)))) a1] = laws_eqEntry_P f_laws_eqStringS (fun r0 => some [⟨.bool, r0⟩])  a0 a1 := by kernel_rfl
theorem a_laws_eqEntry (n : Nat) (a0 : TEntry) (a1 : TEntry) : absF tab sigs O_laws_eqEntry A_laws_eqEntry Try.f14 [(.bool, .no)] n [.val (.pair .str (.pair (.int .i64) (.pair (.int .i64) (.slice 9 .str)))) a0, .val (.pair .str (.pair (.int .i64) (.pair (.int .i64) (.slice 9 .str)))) a1] = laws_eqEntry (fun r0 => some [⟨.bool, r0⟩])  a0 a1 := aP_laws_eqEntry N.laws_eqStringS n a0 a1
theorem said_laws_eqEntry (a0 : TEntry) (a1 : TEntry) : Said Try.prog sigs_14 14 [.val (.pair .str (.pair (.int .i64) (.pair (.int .i64) (.slice 9 .str)))) a0, .val (.pair .str (.pair (.int .i64) (.pair (.int .i64) (.slice 9 .str)))) a1] [⟨.bool, N.laws_eqEntry a0 a1⟩] := said_len (T := tab) (A := A_laws_eqEntry) tabOk ok_laws_eqEntry tabOk.follows Try.func14 (by kernel_rfl) (by kernel_rfl) (fun hl => ⟨0, (a_laws_eqEntry 0 a0 a1).trans (laws_eqEntry_ok (ρ := Ret) (fun r0 => some [⟨.bool, r0⟩]) a0 a1 hl.1 hl.2.1)⟩)
/-! laws.markText -/
abbrev N.laws_markText (k : Int) : ByteArray := markTextM k
def laws_markText_L0 {ρ : Type} (k : ByteArray → Option ρ) (L0 : Int → ByteArray → Option ρ) (v0_0 : Int) (v0_1 : ByteArray) : Option ρ := (cond (decide (v0_0 > (0 : Int))) (cond (decide (ByteArray.size (strOfNums [(IntKind.wrap .u8 (IntKind.wrap .i64 ((48 : Int) + (Int.tmod v0_0 (10 : Int)))))]) + ByteArray.size v0_1 ≤ 9223372036854775807)) (L0 (IntKind.wrap .i64 (Int.tdiv v0_0 (10 : Int))) ((strOfNums [(IntKind.wrap .u8 (IntKind.wrap .i64 ((48 : Int) + (Int.tmod v0_0 (10 : Int)))))]) ++ v0_1)) none) (cond (decide (ByteArray.size (ByteArray.mk #[109]) + ByteArray.size v0_1 ≤ 9223372036854775807)) (k ((ByteArray.mk #[109]) ++ v0_1)) none))
def laws_markText {ρ : Type} (k : ByteArray → Option ρ) (L0 : Int → ByteArray → Option ρ) (a0 : Int) : Option ρ := (cond (decide (a0 ≤ (0 : Int))) (k (ByteArray.mk #[109, 48])) (L0 a0 (ByteArray.mk #[])))
theorem laws_markText_ok {ρ : Type} (k : ByteArray → Option ρ) (a0 : Int) : ∃ n0, ∀ n, n0 ≤ n → ∀ (L0 : Nat → Int → ByteArray → Option ρ) (h0 : ∀ ( m : Nat) (v0_0 : Int) (v0_1 : ByteArray), L0 (m + 1) v0_0 v0_1 = laws_markText_L0 k (L0 m) v0_0 v0_1), laws_markText k (L0 n) a0 = k (N.laws_markText a0) := by
  exact ⟨30, fun n hn L0 h0 => markText_run (fun m k' o => h0 m k' o) hn⟩
def O_laws_markText : Orac := nilO
theorem ok_laws_markText : OracOk Try.prog sigs O_laws_markText := nilO_ok
def A_laws_markText : Ann := fun b => cond (Nat.beq b 0) ⟨[(0, false), (3, false)], []⟩ (⟨[], []⟩)
def S_laws_markText_0 (v0_0 : Int) (v0_1 : ByteArray) : St := [(kT 0, some (.tv (.v (.int .i64) v0_0 .no))), (kT 3, some (.tv (.v .str v0_1 .no)))]
noncomputable def L_laws_markText_0 (n m : Nat) : St → Option Ret := loopOf tab sigs O_laws_markText A_laws_markText Try.f40 [(.str, .no)] n (fun _ => 0) 0 m
theorem b_laws_markText_0 (n m : Nat) (v0_0 : Int) (v0_1 : ByteArray) : L_laws_markText_0 n (m + 1) (S_laws_markText_0 v0_0 v0_1) = laws_markText_L0 (fun r0 => some [⟨.str, r0⟩]) (fun v0_0 v0_1 => L_laws_markText_0 n m (S_laws_markText_0 v0_0 v0_1)) v0_0 v0_1 := by kernel_rfl
theorem a_laws_markText (n : Nat) (a0 : Int) : absF tab sigs O_laws_markText A_laws_markText Try.f40 [(.str, .no)] n [.val (.int .i64) a0] = laws_markText (fun r0 => some [⟨.str, r0⟩]) (fun v0_0 v0_1 => L_laws_markText_0 n n (S_laws_markText_0 v0_0 v0_1)) a0 := by kernel_rfl
theorem said_laws_markText (a0 : Int) : Said Try.prog sigs_40 40 [.val (.int .i64) a0] [⟨.str, N.laws_markText a0⟩] := said_len (T := tab) (A := A_laws_markText) tabOk ok_laws_markText tabOk.follows Try.func40 (by kernel_rfl) (by kernel_rfl) (fun hl => let ⟨n, hn⟩ := laws_markText_ok (ρ := Ret) (fun r0 => some [⟨.str, r0⟩]) a0; ⟨n, (a_laws_markText n a0).trans (hn n (Nat.le_refl n) (fun  m v0_0 v0_1 => L_laws_markText_0 n  m (S_laws_markText_0 v0_0 v0_1)) (fun  m v0_0 v0_1 => b_laws_markText_0 n  m v0_0 v0_1))⟩)
/-! laws.markStringS -/
abbrev N.laws_markStringS (l : List ByteArray) (k : Int) : Int × List ByteArray := (upI k l.length, mkS k l.length)
def laws_markStringS_L0 {ρ : Type} (k : Int → (List ByteArray) → Option ρ) (L0 : Int → Int → (List ByteArray) → Option ρ) (v0_0 : Int) (v0_1 : Int) (v0_2 : (List ByteArray)) : Option ρ := (cond (decide (v0_1 < (List.length v0_2 : Int))) (cond (inRange v0_1 (List.length v0_2)) (cond (inRange v0_1 (List.length v0_2)) (L0 (IntKind.wrap .i64 (v0_0 + (1 : Int))) (IntKind.wrap .i64 (v0_1 + (1 : Int))) (List.set v0_2 (Int.toNat v0_1) (N.laws_markText v0_0))) none) none) (k v0_0 v0_2))
def laws_markStringS {ρ : Type} (k : Int → (List ByteArray) → Option ρ) (L0 : Int → Int → (List ByteArray) → Option ρ) (a0 : (List ByteArray)) (a1 : Int) : Option ρ := (L0 a1 (0 : Int) a0)
theorem laws_markStringS_ok {ρ : Type} (k : Int → (List ByteArray) → Option ρ) (a0 : (List ByteArray)) (a1 : Int) (l_a0 : lnL (fun _ => True) a0) : ∃ n0, ∀ n, n0 ≤ n → ∀ (L0 : Nat → Int → Int → (List ByteArray) → Option ρ) (h0 : ∀ ( m : Nat) (v0_0 : Int) (v0_1 : Int) (v0_2 : (List ByteArray)), L0 (m + 1) v0_0 v0_1 v0_2 = laws_markStringS_L0 k (L0 m) v0_0 v0_1 v0_2), laws_markStringS k (L0 n) a0 a1 = k (N.laws_markStringS a0 a1).1 (N.laws_markStringS a0 a1).2 := by
  refine ⟨a0.length + 1, fun n hn L0 h0 => ?_⟩
  refine raw_mark (v := markTextM) (s := s1) (K := k) (L := L0) l_a0.1 (fun m k' j p hp hj => ?_) (fun m k' p hp => ?_) hn
  · have : j < big := by have := l_a0.1; omega
    rw [h0]
    simp [laws_markStringS_L0, lt_nat, inRange_nat, hj, wrap_succ this, s1]
  · rw [h0]
    simp [laws_markStringS_L0, lt_nat, hp]
def OP_laws_markStringS (f_laws_markText : Int → ByteArray) : Orac := (orcX 40 [.val (.int .i64)] (fun d => true) (fun d => [⟨.str, f_laws_markText d.1⟩]) nilO)
def O_laws_markStringS : Orac := OP_laws_markStringS N.laws_markText
def laws_markStringS_P_L0 {ρ : Type} (f_laws_markText : Int → ByteArray) (k : Int → (List ByteArray) → Option ρ) (L0 : Int → Int → (List ByteArray) → Option ρ) (v0_0 : Int) (v0_1 : Int) (v0_2 : (List ByteArray)) : Option ρ := (cond (decide (v0_1 < (List.length v0_2 : Int))) (cond (inRange v0_1 (List.length v0_2)) (cond (inRange v0_1 (List.length v0_2)) (L0 (IntKind.wrap .i64 (v0_0 + (1 : Int))) (IntKind.wrap .i64 (v0_1 + (1 : Int))) (List.set v0_2 (Int.toNat v0_1) (f_laws_markText v0_0))) none) none) (k v0_0 v0_2))
def laws_markStringS_P {ρ : Type} (f_laws_markText : Int → ByteArray) (k : Int → (List ByteArray) → Option ρ) (L0 : Int → Int → (List ByteArray) → Option ρ) (a0 : (List ByteArray)) (a1 : Int) : Option ρ := (L0 a1 (0 : Int) a0)
theorem ok_laws_markStringS : OracOk Try.prog sigs O_laws_markStringS := (orcX_ok rfl rfl (fun d g => said_laws_markText d.1) nilO_ok)
def A_laws_markStringS : Ann := fun b => cond (Nat.beq b 0) ⟨[(0, true), (1, false), (5, false)], []⟩ (⟨[], []⟩)
def S_laws_markStringS_0 (v0_0 : Int) (v0_1 : Int) (v0_2 : (List ByteArray)) : St := [(kT 0, some (.tv (.v (.slice 9 .str) [] (.own 0)))), (kT 1, some (.tv (.v (.int .i64) v0_0 .no))), (kT 5, some (.tv (.v (.int .i64) v0_1 .no))), (kR 0, some (.row 9 .str v0_2))]
noncomputable def L_P_laws_markStringS_0 (f_laws_markText : Int → ByteArray) (n m : Nat) : St → Option Ret := loopOf tab sigs (OP_laws_markStringS f_laws_markText) A_laws_markStringS (lentF Try.f37) [((.int .i64), .no), ((.slice 9 .str), (.own 0))] n (fun _ => 0) 0 m
noncomputable def L_laws_markStringS_0 (n m : Nat) : St → Option Ret := L_P_laws_markStringS_0 N.laws_markText n m
theorem bP_laws_markStringS_0 (f_laws_markText : Int → ByteArray) (n m : Nat) (v0_0 : Int) (v0_1 : Int) (v0_2 : (List ByteArray)) : L_P_laws_markStringS_0 f_laws_markText n (m + 1) (S_laws_markStringS_0 v0_0 v0_1 v0_2) = laws_markStringS_P_L0 f_laws_markText (fun r0 r1 => some [⟨(.int .i64), r0⟩, ⟨(.slice 9 .str), r1⟩]) (fun v0_0 v0_1 v0_2 => L_P_laws_markStringS_0 f_laws_markText n m (S_laws_markStringS_0 v0_0 v0_1 v0_2)) v0_0 v0_1 v0_2 := by kernel_rfl
theorem b_laws_markStringS_0 (n m : Nat) (v0_0 : Int) (v0_1 : Int) (v0_2 : (List ByteArray)) : L_laws_markStringS_0 n (m + 1) (S_laws_markStringS_0 v0_0 v0_1 v0_2) = laws_markStringS_L0 (fun r0 r1 => some [⟨(.int .i64), r0⟩, ⟨(.slice 9 .str), r1⟩]) (fun v0_0 v0_1 v0_2 => L_laws_markStringS_0 n m (S_laws_markStringS_0 v0_0 v0_1 v0_2)) v0_0 v0_1 v0_2 := bP_laws_markStringS_0 N.laws_markText n m v0_0 v0_1 v0_2
theorem aP_laws_markStringS (f_laws_markText : Int → ByteArray) (n : Nat) (a0 : (List ByteArray)) (a1 : Int) : absFM tab sigs (OP_laws_markStringS f_laws_markText) A_laws_markStringS Try.f37 n (.slice 9 .str) a0 (.own 0) a1 = laws_markStringS_P f_laws_markText (fun r0 r1 => some [⟨(.int .i64), r0⟩, ⟨(.slice 9 .str), r1⟩]) (fun v0_0 v0_1 v0_2 => L_P_laws_markStringS_0 f_laws_markText n n (S_laws_markStringS_0 v0_0 v0_1 v0_2)) a0 a1 := by kernel_rfl
theorem a_laws_markStringS (n : Nat) (a0 : (List ByteArray)) (a1 : Int) : absFM tab sigs O_laws_markStringS A_laws_markStringS Try.f37 n (.slice 9 .str) a0 (.own 0) a1 = laws_markStringS (fun r0 r1 => some [⟨(.int .i64), r0⟩, ⟨(.slice 9 .str), r1⟩]) (fun v0_0 v0_1 v0_2 => L_laws_markStringS_0 n n (S_laws_markStringS_0 v0_0 v0_1 v0_2)) a0 a1 := aP_laws_markStringS N.laws_markText n a0 a1
theorem said_laws_markStringS (a0 : (List ByteArray)) (a1 : Int) : SaidL Try.prog 37 (.slice 9 .str) a0 (.own 0) a1 [⟨(.int .i64), (N.laws_markStringS a0 a1).1⟩, ⟨(.slice 9 .str), (N.laws_markStringS a0 a1).2⟩] := said_lenM (T := tab) (A := A_laws_markStringS) tabOk ok_laws_markStringS tabOk.follows rfl Try.func37 (by kernel_rfl) (by kernel_rfl) (fun hl => let ⟨n, hn⟩ := laws_markStringS_ok (ρ := Ret) (fun r0 r1 => some [⟨(.int .i64), r0⟩, ⟨(.slice 9 .str), r1⟩]) a0 a1 hl; ⟨n, (a_laws_markStringS n a0 a1).trans (hn n (Nat.le_refl n) (fun  m v0_0 v0_1 v0_2 => L_laws_markStringS_0 n  m (S_laws_markStringS_0 v0_0 v0_1 v0_2)) (fun  m v0_0 v0_1 v0_2 => b_laws_markStringS_0 n  m v0_0 v0_1 v0_2))⟩)
/-! laws.markEntry -/
abbrev N.laws_markEntry (a : TEntry) (k : Int) : Int × TEntry := (upI k a.2.2.2.length, (a.1, (a.2.1, (a.2.2.1, mkS k a.2.2.2.length))))
def laws_markEntry {ρ : Type} (k : Int → TEntry → Option ρ) (a0 : TEntry) (a1 : Int) : Option ρ := (k (N.laws_markStringS a0.2.2.2 a1).1 (a0.1, (a0.2.1, (a0.2.2.1, (N.laws_markStringS a0.2.2.2 a1).2))))
theorem laws_markEntry_ok {ρ : Type} (k : Int → TEntry → Option ρ) (a0 : TEntry) (a1 : Int) (l_a0 : (True ∧ (True ∧ (True ∧ lnL (fun _ => True) a0.2.2.2)))) : laws_markEntry k  a0 a1 = k (N.laws_markEntry a0 a1).1 (N.laws_markEntry a0 a1).2 := by
  rfl
def OP_laws_markEntry (f_laws_markStringS : (List ByteArray) → Int → (Int × (List ByteArray))) : Orac := (orcX 37 [.lend (.slice 9 .str) (.own 0), .val (.int .i64)] (fun d => true) (fun d => [⟨(.int .i64), (f_laws_markStringS d.1 d.2.1).1⟩, ⟨(.slice 9 .str), (f_laws_markStringS d.1 d.2.1).2⟩]) nilO)
def O_laws_markEntry : Orac := OP_laws_markEntry N.laws_markStringS
def laws_markEntry_P {ρ : Type} (f_laws_markStringS : (List ByteArray) → Int → (Int × (List ByteArray))) (k : Int → TEntry → Option ρ) (a0 : TEntry) (a1 : Int) : Option ρ := (k (f_laws_markStringS a0.2.2.2 a1).1 (a0.1, (a0.2.1, (a0.2.2.1, (f_laws_markStringS a0.2.2.2 a1).2))))
theorem ok_laws_markEntry : OracOk Try.prog sigs O_laws_markEntry := (orcM_ok rfl (fun d g => said_laws_markStringS d.1 d.2.1) nilO_ok)
def A_laws_markEntry : Ann := fun b => ⟨[], []⟩
theorem aP_laws_markEntry (f_laws_markStringS : (List ByteArray) → Int → (Int × (List ByteArray))) (n : Nat) (a0 : TEntry) (a1 : Int) : absFM tab sigs (OP_laws_markEntry f_laws_markStringS) A_laws_markEntry Try.f15 n (.pair .str (.pair (.int .i64) (.pair (.int .i64) (.slice 9 .str)))) a0 (.pair .no (.pair .no (.pair .no (.own 0)))) a1 = laws_markEntry_P f_laws_markStringS (fun r0 r1 => some [⟨(.int .i64), r0⟩, ⟨(.pair .str (.pair (.int .i64) (.pair (.int .i64) (.slice 9 .str)))), r1⟩])  a0 a1 := by kernel_rfl
theorem a_laws_markEntry (n : Nat) (a0 : TEntry) (a1 : Int) : absFM tab sigs O_laws_markEntry A_laws_markEntry Try.f15 n (.pair .str (.pair (.int .i64) (.pair (.int .i64) (.slice 9 .str)))) a0 (.pair .no (.pair .no (.pair .no (.own 0)))) a1 = laws_markEntry (fun r0 r1 => some [⟨(.int .i64), r0⟩, ⟨(.pair .str (.pair (.int .i64) (.pair (.int .i64) (.slice 9 .str)))), r1⟩])  a0 a1 := aP_laws_markEntry N.laws_markStringS n a0 a1
theorem said_laws_markEntry (a0 : TEntry) (a1 : Int) : SaidL Try.prog 15 (.pair .str (.pair (.int .i64) (.pair (.int .i64) (.slice 9 .str)))) a0 (.pair .no (.pair .no (.pair .no (.own 0)))) a1 [⟨(.int .i64), (N.laws_markEntry a0 a1).1⟩, ⟨(.pair .str (.pair (.int .i64) (.pair (.int .i64) (.slice 9 .str)))), (N.laws_markEntry a0 a1).2⟩] := said_lenM (T := tab) (A := A_laws_markEntry) tabOk ok_laws_markEntry tabOk.follows rfl Try.func15 (by kernel_rfl) (by kernel_rfl) (fun hl => ⟨0, (a_laws_markEntry 0 a0 a1).trans (laws_markEntry_ok (ρ := Ret) (fun r0 r1 => some [⟨(.int .i64), r0⟩, ⟨(.pair .str (.pair (.int .i64) (.pair (.int .i64) (.slice 9 .str)))), r1⟩]) a0 a1 hl)⟩)
/-! laws.markIntS -/
abbrev N.laws_markIntS (l : List Int) (k : Int) : Int × List Int := (upI k l.length, mkI k l.length)
def laws_markIntS_L0 {ρ : Type} (k : Int → (List Int) → Option ρ) (L0 : Int → Int → (List Int) → Option ρ) (v0_0 : Int) (v0_1 : Int) (v0_2 : (List Int)) : Option ρ := (cond (decide (v0_1 < (List.length v0_2 : Int))) (cond (inRange v0_1 (List.length v0_2)) (cond (inRange v0_1 (List.length v0_2)) (L0 (IntKind.wrap .i64 (v0_0 + (1 : Int))) (IntKind.wrap .i64 (v0_1 + (1 : Int))) (List.set v0_2 (Int.toNat v0_1) v0_0)) none) none) (k v0_0 v0_2))
def laws_markIntS {ρ : Type} (k : Int → (List Int) → Option ρ) (L0 : Int → Int → (List Int) → Option ρ) (a0 : (List Int)) (a1 : Int) : Option ρ := (L0 a1 (0 : Int) a0)
theorem laws_markIntS_ok {ρ : Type} (k : Int → (List Int) → Option ρ) (a0 : (List Int)) (a1 : Int) (l_a0 : lnL (fun _ => True) a0) : ∃ n0, ∀ n, n0 ≤ n → ∀ (L0 : Nat → Int → Int → (List Int) → Option ρ) (h0 : ∀ ( m : Nat) (v0_0 : Int) (v0_1 : Int) (v0_2 : (List Int)), L0 (m + 1) v0_0 v0_1 v0_2 = laws_markIntS_L0 k (L0 m) v0_0 v0_1 v0_2), laws_markIntS k (L0 n) a0 a1 = k (N.laws_markIntS a0 a1).1 (N.laws_markIntS a0 a1).2 := by
  refine ⟨a0.length + 1, fun n hn L0 h0 => ?_⟩
  refine raw_mark (v := fun k => k) (s := s1) (K := k) (L := L0) l_a0.1 (fun m k' j p hp hj => ?_) (fun m k' p hp => ?_) hn
  · have : j < big := by have := l_a0.1; omega
    rw [h0]
    simp [laws_markIntS_L0, lt_nat, inRange_nat, hj, wrap_succ this, s1]
  · rw [h0]
    simp [laws_markIntS_L0, lt_nat, hp]
def O_laws_markIntS : Orac := nilO
theorem ok_laws_markIntS : OracOk Try.prog sigs O_laws_markIntS := nilO_ok
def A_laws_markIntS : Ann := fun b => cond (Nat.beq b 0) ⟨[(0, true), (1, false), (5, false)], []⟩ (⟨[], []⟩)
def S_laws_markIntS_0 (v0_0 : Int) (v0_1 : Int) (v0_2 : (List Int)) : St := [(kT 0, some (.tv (.v (.slice 3 (.int .i64)) [] (.own 0)))), (kT 1, some (.tv (.v (.int .i64) v0_0 .no))), (kT 5, some (.tv (.v (.int .i64) v0_1 .no))), (kR 0, some (.row 3 (.int .i64) v0_2))]
noncomputable def L_laws_markIntS_0 (n m : Nat) : St → Option Ret := loopOf tab sigs O_laws_markIntS A_laws_markIntS (lentF Try.f16) [((.int .i64), .no), ((.slice 3 (.int .i64)), (.own 0))] n (fun _ => 0) 0 m
theorem b_laws_markIntS_0 (n m : Nat) (v0_0 : Int) (v0_1 : Int) (v0_2 : (List Int)) : L_laws_markIntS_0 n (m + 1) (S_laws_markIntS_0 v0_0 v0_1 v0_2) = laws_markIntS_L0 (fun r0 r1 => some [⟨(.int .i64), r0⟩, ⟨(.slice 3 (.int .i64)), r1⟩]) (fun v0_0 v0_1 v0_2 => L_laws_markIntS_0 n m (S_laws_markIntS_0 v0_0 v0_1 v0_2)) v0_0 v0_1 v0_2 := by kernel_rfl
theorem a_laws_markIntS (n : Nat) (a0 : (List Int)) (a1 : Int) : absFM tab sigs O_laws_markIntS A_laws_markIntS Try.f16 n (.slice 3 (.int .i64)) a0 (.own 0) a1 = laws_markIntS (fun r0 r1 => some [⟨(.int .i64), r0⟩, ⟨(.slice 3 (.int .i64)), r1⟩]) (fun v0_0 v0_1 v0_2 => L_laws_markIntS_0 n n (S_laws_markIntS_0 v0_0 v0_1 v0_2)) a0 a1 := by kernel_rfl
theorem said_laws_markIntS (a0 : (List Int)) (a1 : Int) : SaidL Try.prog 16 (.slice 3 (.int .i64)) a0 (.own 0) a1 [⟨(.int .i64), (N.laws_markIntS a0 a1).1⟩, ⟨(.slice 3 (.int .i64)), (N.laws_markIntS a0 a1).2⟩] := said_lenM (T := tab) (A := A_laws_markIntS) tabOk ok_laws_markIntS tabOk.follows rfl Try.func16 (by kernel_rfl) (by kernel_rfl) (fun hl => let ⟨n, hn⟩ := laws_markIntS_ok (ρ := Ret) (fun r0 r1 => some [⟨(.int .i64), r0⟩, ⟨(.slice 3 (.int .i64)), r1⟩]) a0 a1 hl; ⟨n, (a_laws_markIntS n a0 a1).trans (hn n (Nat.le_refl n) (fun  m v0_0 v0_1 v0_2 => L_laws_markIntS_0 n  m (S_laws_markIntS_0 v0_0 v0_1 v0_2)) (fun  m v0_0 v0_1 v0_2 => b_laws_markIntS_0 n  m v0_0 v0_1 v0_2))⟩)
/-! laws.heldIntS -/
abbrev N.laws_heldIntS (l : List Int) (k : Int) : Int := heldI l k
def laws_heldIntS_L0 {ρ : Type} (k : Int → Option ρ) (L0 : (List Int) → Int → Int → Option ρ) (v0_0 : (List Int)) (v0_1 : Int) (v0_2 : Int) : Option ρ := (cond (decide (v0_2 < (List.length v0_0 : Int))) (cond (inRange v0_2 (List.length v0_0)) (cond ((List.getD v0_0 (Int.toNat v0_2) (0 : Int)) != v0_1) (k (-1 : Int)) (L0 v0_0 (IntKind.wrap .i64 (v0_1 + (1 : Int))) (IntKind.wrap .i64 (v0_2 + (1 : Int))))) none) (k v0_1))
def laws_heldIntS {ρ : Type} (k : Int → Option ρ) (L0 : (List Int) → Int → Int → Option ρ) (a0 : (List Int)) (a1 : Int) : Option ρ := (L0 a0 a1 (0 : Int))
theorem laws_heldIntS_ok {ρ : Type} (k : Int → Option ρ) (a0 : (List Int)) (a1 : Int) (l_a0 : lnL (fun _ => True) a0) : ∃ n0, ∀ n, n0 ≤ n → ∀ (L0 : Nat → (List Int) → Int → Int → Option ρ) (h0 : ∀ ( m : Nat) (v0_0 : (List Int)) (v0_1 : Int) (v0_2 : Int), L0 (m + 1) v0_0 v0_1 v0_2 = laws_heldIntS_L0 k (L0 m) v0_0 v0_1 v0_2), laws_heldIntS k (L0 n) a0 a1 = k (N.laws_heldIntS a0 a1) := by
  refine ⟨a0.length + 1, fun n hn L0 h0 => ?_⟩
  refine raw_held (c := fun a k => a == k) (s := s1) (K := k) (L := fun m k i => L0 m a0 k i) 0 l_a0.1 (fun m k' j hj => ?_) (fun m k' => ?_) hn
  · have : j < big := by have := l_a0.1; omega
    show L0 (m + 1) a0 k' (j : Int) = _
    rw [h0]
    simp only [laws_heldIntS_L0, lt_nat, inRange_nat, hj, wrap_succ this, s1, decide_true, cond_true, bne, Int.toNat_natCast]
    cases (a0.getD j 0 == k') <;> rfl
  · show L0 (m + 1) a0 k' (a0.length : Int) = _
    rw [h0]
    simp [laws_heldIntS_L0]
def O_laws_heldIntS : Orac := nilO
theorem ok_laws_heldIntS : OracOk Try.prog sigs O_laws_heldIntS := nilO_ok
def A_laws_heldIntS : Ann := fun b => cond (Nat.beq b 0) ⟨[(0, false), (1, false), (5, false)], []⟩ (⟨[], []⟩)
def S_laws_heldIntS_0 (v0_0 : (List Int)) (v0_1 : Int) (v0_2 : Int) : St := [(kT 0, some (.tv (.v (.slice 3 (.int .i64)) v0_0 .no))), (kT 1, some (.tv (.v (.int .i64) v0_1 .no))), (kT 5, some (.tv (.v (.int .i64) v0_2 .no)))]
noncomputable def L_laws_heldIntS_0 (n m : Nat) : St → Option Ret := loopOf tab sigs O_laws_heldIntS A_laws_heldIntS Try.f17 [((.int .i64), .no)] n (fun _ => 0) 0 m
theorem b_laws_heldIntS_0 (n m : Nat) (v0_0 : (List Int)) (v0_1 : Int) (v0_2 : Int) : L_laws_heldIntS_0 n (m + 1) (S_laws_heldIntS_0 v0_0 v0_1 v0_2) = laws_heldIntS_L0 (fun r0 => some [⟨(.int .i64), r0⟩]) (fun v0_0 v0_1 v0_2 => L_laws_heldIntS_0 n m (S_laws_heldIntS_0 v0_0 v0_1 v0_2)) v0_0 v0_1 v0_2 := by kernel_rfl
theorem a_laws_heldIntS (n : Nat) (a0 : (List Int)) (a1 : Int) : absF tab sigs O_laws_heldIntS A_laws_heldIntS Try.f17 [((.int .i64), .no)] n [.val (.slice 3 (.int .i64)) a0, .val (.int .i64) a1] = laws_heldIntS (fun r0 => some [⟨(.int .i64), r0⟩]) (fun v0_0 v0_1 v0_2 => L_laws_heldIntS_0 n n (S_laws_heldIntS_0 v0_0 v0_1 v0_2)) a0 a1 := by kernel_rfl
theorem said_laws_heldIntS (a0 : (List Int)) (a1 : Int) : Said Try.prog sigs_17 17 [.val (.slice 3 (.int .i64)) a0, .val (.int .i64) a1] [⟨(.int .i64), N.laws_heldIntS a0 a1⟩] := said_len (T := tab) (A := A_laws_heldIntS) tabOk ok_laws_heldIntS tabOk.follows Try.func17 (by kernel_rfl) (by kernel_rfl) (fun hl => let ⟨n, hn⟩ := laws_heldIntS_ok (ρ := Ret) (fun r0 => some [⟨(.int .i64), r0⟩]) a0 a1 hl.1; ⟨n, (a_laws_heldIntS n a0 a1).trans (hn n (Nat.le_refl n) (fun  m v0_0 v0_1 v0_2 => L_laws_heldIntS_0 n  m (S_laws_heldIntS_0 v0_0 v0_1 v0_2)) (fun  m v0_0 v0_1 v0_2 => b_laws_heldIntS_0 n  m v0_0 v0_1 v0_2))⟩)
end Go.Proofs.Ythiiialbkppmnaa.Ref
