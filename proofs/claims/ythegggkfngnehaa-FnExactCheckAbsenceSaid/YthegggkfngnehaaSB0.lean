/- Functions of the program: what each computes, and that it does so.
   Conditions: as each theorem states. -/
import Derived.Test.YthegggkfngnehaaSA
set_option linter.unusedVariables false
set_option linter.unusedSimpArgs false
set_option maxRecDepth 100000
namespace Go.Proofs.Ythegggkfngnehaa.Ref
open Go.RowKit Go.Proofs.YthegggkfngnehaaW.PrintWords Go.Proofs.YthegggkfngnehaaW.PrintLast
/-! laws.szStringS -/
abbrev G.laws_szStringS (a : List ByteArray) (left : Int) : Bool := gL left && bP a
abbrev N.laws_szStringS (a : List ByteArray) (left : Int) : Int := sub1 (wP a) left
def laws_szStringS_L0 {ρ : Type} (k : Int → Option ρ) (L0 : (List ByteArray) → Int → Int → Option ρ) (v0_0 : (List ByteArray)) (v0_1 : Int) (v0_2 : Int) : Option ρ := (cond (decide (v0_2 < (List.length v0_0 : Int))) (cond (inRange v0_2 (List.length v0_0)) (cond (decide ((IntKind.wrap .i64 (v0_1 - (ByteArray.size (List.getD v0_0 (Int.toNat v0_2) ByteArray.empty) : Int))) < (0 : Int))) (k (-1 : Int)) (L0 v0_0 (IntKind.wrap .i64 (v0_1 - (ByteArray.size (List.getD v0_0 (Int.toNat v0_2) ByteArray.empty) : Int))) (IntKind.wrap .i64 (v0_2 + (1 : Int))))) none) (k v0_1))
def laws_szStringS {ρ : Type} (k : Int → Option ρ) (L0 : (List ByteArray) → Int → Int → Option ρ) (a0 : (List ByteArray)) (a1 : Int) : Option ρ := (cond (decide ((IntKind.wrap .i64 (a1 - (List.length a0 : Int))) < (0 : Int))) (k (-1 : Int)) (L0 a0 (IntKind.wrap .i64 (a1 - (List.length a0 : Int))) (0 : Int)))
theorem laws_szStringS_ok {ρ : Type} (k : Int → Option ρ) (a0 : (List ByteArray)) (a1 : Int) (l_a0 : lnL (fun _ => True) a0) (g : G.laws_szStringS a0 a1 = true) : ∃ n0, ∀ n, n0 ≤ n → ∀ (L0 : Nat → (List ByteArray) → Int → Int → Option ρ) (h0 : ∀ ( m : Nat) (v0_0 : (List ByteArray)) (v0_1 : Int) (v0_2 : Int), L0 (m + 1) v0_0 v0_1 v0_2 = laws_szStringS_L0 k (L0 m) v0_0 v0_1 v0_2), laws_szStringS k (L0 n) a0 a1 = k (N.laws_szStringS a0 a1) := by
  unfold G.laws_szStringS at g
  replace g := (Bool.and_eq_true _ _).mp g
  refine ⟨a0.length + 1, fun n hn L0 h0 => ?_⟩
  refine sz_first (c := fun l => L0 n a0 l 0) g.1 l_a0.1 (fun g' => ?_)
  have g'' : 0 ≤ sub1 a0.length a1 ∧ sub1 a0.length a1 ≤ 1048576 := by simpa only [gL, Bool.and_eq_true, decide_eq_true_eq] using g'
  refine (loop_l (a := a0) (d := ByteArray.empty) l_a0.1 (L := fun m i s => L0 m a0 s i) (f := fun i x s c => cond (decide (IntKind.wrap .i64 (s - (x.size : Int)) < 0)) (k (-1)) (c (IntKind.wrap .i64 (s - (x.size : Int))))) (e := k) (fun m i s => h0 m a0 s i) hn).trans ?_
  refine foldI_sz (fun x => x.size ≤ 9223372036854775807) (fun i x s c hx hs0 hs1 => ?_) (fun s => rfl) a0 0 _ (fun x hx => by simpa using List.all_eq_true.1 g.2 x hx) g''.1 g''.2
  rw [wrap_sub hs0 hs1 (by omega) (by omega)]
  congr 1
  simp only [decide_eq_decide]
  omega
def O_laws_szStringS : Orac := nilO
theorem ok_laws_szStringS : OracOk Try.prog sigs O_laws_szStringS := nilO_ok
def A_laws_szStringS : Ann := fun b => cond (Nat.beq b 0) ⟨[(0, false), (1, false), (5, false)], []⟩ (⟨[], []⟩)
def S_laws_szStringS_0 (v0_0 : (List ByteArray)) (v0_1 : Int) (v0_2 : Int) : St := [(kT 0, some (.tv (.v (.slice 9 .str) v0_0 .no))), (kT 1, some (.tv (.v (.int .i64) v0_1 .no))), (kT 5, some (.tv (.v (.int .i64) v0_2 .no)))]
noncomputable def L_laws_szStringS_0 (n m : Nat) : St → Option Ret := loopOf tab sigs O_laws_szStringS A_laws_szStringS Try.f39 [((.int .i64), .no)] n (fun _ => 0) 0 m
theorem b_laws_szStringS_0 (n m : Nat) (v0_0 : (List ByteArray)) (v0_1 : Int) (v0_2 : Int) : L_laws_szStringS_0 n (m + 1) (S_laws_szStringS_0 v0_0 v0_1 v0_2) = laws_szStringS_L0 (fun r0 => some [⟨(.int .i64), r0⟩]) (fun v0_0 v0_1 v0_2 => L_laws_szStringS_0 n m (S_laws_szStringS_0 v0_0 v0_1 v0_2)) v0_0 v0_1 v0_2 := by kernel_rfl
theorem a_laws_szStringS (n : Nat) (a0 : (List ByteArray)) (a1 : Int) : absF tab sigs O_laws_szStringS A_laws_szStringS Try.f39 [((.int .i64), .no)] n [.val (.slice 9 .str) a0, .val (.int .i64) a1] = laws_szStringS (fun r0 => some [⟨(.int .i64), r0⟩]) (fun v0_0 v0_1 v0_2 => L_laws_szStringS_0 n n (S_laws_szStringS_0 v0_0 v0_1 v0_2)) a0 a1 := by kernel_rfl
theorem said_laws_szStringS (a0 : (List ByteArray)) (a1 : Int) (g : G.laws_szStringS a0 a1 = true) : Said Try.prog sigs_39 39 [.val (.slice 9 .str) a0, .val (.int .i64) a1] [⟨(.int .i64), N.laws_szStringS a0 a1⟩] := said_len (T := tab) (A := A_laws_szStringS) tabOk ok_laws_szStringS tabOk.follows Try.func39 (by kernel_rfl) (by kernel_rfl) (fun hl => let ⟨n, hn⟩ := laws_szStringS_ok (ρ := Ret) (fun r0 => some [⟨(.int .i64), r0⟩]) a0 a1 hl.1 g; ⟨n, (a_laws_szStringS n a0 a1).trans (hn n (Nat.le_refl n) (fun  m v0_0 v0_1 v0_2 => L_laws_szStringS_0 n  m (S_laws_szStringS_0 v0_0 v0_1 v0_2)) (fun  m v0_0 v0_1 v0_2 => b_laws_szStringS_0 n  m v0_0 v0_1 v0_2))⟩)
/-! laws.szEntry -/
abbrev G.laws_szEntry (a : TEntry) (left : Int) : Bool := gL left && bE a
abbrev N.laws_szEntry (a : TEntry) (left : Int) : Int := sub1 (wE a) left
def laws_szEntry {ρ : Type} (k : Int → Option ρ) (a0 : TEntry) (a1 : Int) : Option ρ := (cond (decide ((IntKind.wrap .i64 (a1 - (ByteArray.size a0.1 : Int))) < (0 : Int))) (k (-1 : Int)) (cond (G.laws_szStringS a0.2.2.2 (IntKind.wrap .i64 (a1 - (ByteArray.size a0.1 : Int)))) (cond (decide ((N.laws_szStringS a0.2.2.2 (IntKind.wrap .i64 (a1 - (ByteArray.size a0.1 : Int)))) < (0 : Int))) (k (-1 : Int)) (k (N.laws_szStringS a0.2.2.2 (IntKind.wrap .i64 (a1 - (ByteArray.size a0.1 : Int)))))) none))
theorem laws_szEntry_ok {ρ : Type} (k : Int → Option ρ) (a0 : TEntry) (a1 : Int) (l_a0 : (True ∧ (True ∧ (True ∧ lnL (fun _ => True) a0.2.2.2)))) (g : G.laws_szEntry a0 a1 = true) : laws_szEntry k  a0 a1 = k (N.laws_szEntry a0 a1) := by
  unfold G.laws_szEntry at g
  replace g := (Bool.and_eq_true _ _).mp g
  have g2 := (Bool.and_eq_true _ _).mp g.2
  refine sz_first (c := fun l => cond (gL l && bP a0.2.2.2) (cond (decide (sub1 (wP a0.2.2.2) l < 0)) (k (-1)) (k (sub1 (wP a0.2.2.2) l))) none) g.1 (of_decide_eq_true g2.1) (fun g1 => ?_)
  rw [g1, g2.2]
  exact sz_last
def OP_laws_szEntry (f_laws_szStringS : (List ByteArray) → Int → Int) (g_laws_szStringS : (List ByteArray) → Int → Bool) : Orac := (orcX 39 [.val (.slice 9 .str), .val (.int .i64)] (fun d => g_laws_szStringS d.1 d.2.1) (fun d => [⟨(.int .i64), f_laws_szStringS d.1 d.2.1⟩]) nilO)
def O_laws_szEntry : Orac := OP_laws_szEntry N.laws_szStringS G.laws_szStringS
def laws_szEntry_P {ρ : Type} (f_laws_szStringS : (List ByteArray) → Int → Int) (g_laws_szStringS : (List ByteArray) → Int → Bool) (k : Int → Option ρ) (a0 : TEntry) (a1 : Int) : Option ρ := (cond (decide ((IntKind.wrap .i64 (a1 - (ByteArray.size a0.1 : Int))) < (0 : Int))) (k (-1 : Int)) (cond (g_laws_szStringS a0.2.2.2 (IntKind.wrap .i64 (a1 - (ByteArray.size a0.1 : Int)))) (cond (decide ((f_laws_szStringS a0.2.2.2 (IntKind.wrap .i64 (a1 - (ByteArray.size a0.1 : Int)))) < (0 : Int))) (k (-1 : Int)) (k (f_laws_szStringS a0.2.2.2 (IntKind.wrap .i64 (a1 - (ByteArray.size a0.1 : Int)))))) none))
theorem ok_laws_szEntry : OracOk Try.prog sigs O_laws_szEntry := (orcX_ok rfl (fun d g => said_laws_szStringS d.1 d.2.1 g) nilO_ok)
def A_laws_szEntry : Ann := fun b => ⟨[], []⟩
theorem aP_laws_szEntry (f_laws_szStringS : (List ByteArray) → Int → Int) (g_laws_szStringS : (List ByteArray) → Int → Bool) (n : Nat) (a0 : TEntry) (a1 : Int) : absF tab sigs (OP_laws_szEntry f_laws_szStringS g_laws_szStringS) A_laws_szEntry Try.f9 [((.int .i64), .no)] n [.val (.pair .str (.pair (.int .i64) (.pair (.int .i64) (.slice 9 .str)))) a0, .val (.int .i64) a1] = laws_szEntry_P f_laws_szStringS g_laws_szStringS (fun r0 => some [⟨(.int .i64), r0⟩])  a0 a1 := by kernel_rfl
theorem a_laws_szEntry (n : Nat) (a0 : TEntry) (a1 : Int) : absF tab sigs O_laws_szEntry A_laws_szEntry Try.f9 [((.int .i64), .no)] n [.val (.pair .str (.pair (.int .i64) (.pair (.int .i64) (.slice 9 .str)))) a0, .val (.int .i64) a1] = laws_szEntry (fun r0 => some [⟨(.int .i64), r0⟩])  a0 a1 := aP_laws_szEntry N.laws_szStringS G.laws_szStringS n a0 a1
theorem said_laws_szEntry (a0 : TEntry) (a1 : Int) (g : G.laws_szEntry a0 a1 = true) : Said Try.prog sigs_9 9 [.val (.pair .str (.pair (.int .i64) (.pair (.int .i64) (.slice 9 .str)))) a0, .val (.int .i64) a1] [⟨(.int .i64), N.laws_szEntry a0 a1⟩] := said_len (T := tab) (A := A_laws_szEntry) tabOk ok_laws_szEntry tabOk.follows Try.func9 (by kernel_rfl) (by kernel_rfl) (fun hl => ⟨0, (a_laws_szEntry 0 a0 a1).trans (laws_szEntry_ok (ρ := Ret) (fun r0 => some [⟨(.int .i64), r0⟩]) a0 a1 hl.1 g)⟩)
/-! laws.szIntS -/
abbrev G.laws_szIntS (a : List Int) (left : Int) : Bool := gL left
abbrev N.laws_szIntS (a : List Int) (left : Int) : Int := sub1 a.length left
def laws_szIntS {ρ : Type} (k : Int → Option ρ) (a0 : (List Int)) (a1 : Int) : Option ρ := (cond (decide ((IntKind.wrap .i64 (a1 - (List.length a0 : Int))) < (0 : Int))) (k (-1 : Int)) (k (IntKind.wrap .i64 (a1 - (List.length a0 : Int)))))
theorem laws_szIntS_ok {ρ : Type} (k : Int → Option ρ) (a0 : (List Int)) (a1 : Int) (l_a0 : lnL (fun _ => True) a0) (g : G.laws_szIntS a0 a1 = true) : laws_szIntS k  a0 a1 = k (N.laws_szIntS a0 a1) := by
  unfold G.laws_szIntS at g
  exact sz_first (v := 0) (c := k) g l_a0.1 (fun g' => by
    have : 0 ≤ sub1 a0.length a1 := of_decide_eq_true ((Bool.and_eq_true _ _).mp g').1
    rw [sub1_pos (w := 0) (by omega)]
    simp)
def O_laws_szIntS : Orac := nilO
theorem ok_laws_szIntS : OracOk Try.prog sigs O_laws_szIntS := nilO_ok
def A_laws_szIntS : Ann := fun b => ⟨[], []⟩
theorem a_laws_szIntS (n : Nat) (a0 : (List Int)) (a1 : Int) : absF tab sigs O_laws_szIntS A_laws_szIntS Try.f40 [((.int .i64), .no)] n [.val (.slice 3 (.int .i64)) a0, .val (.int .i64) a1] = laws_szIntS (fun r0 => some [⟨(.int .i64), r0⟩])  a0 a1 := by kernel_rfl
theorem said_laws_szIntS (a0 : (List Int)) (a1 : Int) (g : G.laws_szIntS a0 a1 = true) : Said Try.prog sigs_40 40 [.val (.slice 3 (.int .i64)) a0, .val (.int .i64) a1] [⟨(.int .i64), N.laws_szIntS a0 a1⟩] := said_len (T := tab) (A := A_laws_szIntS) tabOk ok_laws_szIntS tabOk.follows Try.func40 (by kernel_rfl) (by kernel_rfl) (fun hl => ⟨0, (a_laws_szIntS 0 a0 a1).trans (laws_szIntS_ok (ρ := Ret) (fun r0 => some [⟨(.int .i64), r0⟩]) a0 a1 hl.1 g)⟩)
/-! laws.szProof -/
abbrev G.laws_szProof (a : TProof) (left : Int) : Bool := gL left
abbrev N.laws_szProof (a : TProof) (left : Int) : Int := sub1 (wPr a) left
def laws_szProof {ρ : Type} (k : Int → Option ρ) (a0 : TProof) (a1 : Int) : Option ρ := (cond (G.laws_szIntS a0.2 a1) (cond (decide ((N.laws_szIntS a0.2 a1) < (0 : Int))) (k (-1 : Int)) (k (N.laws_szIntS a0.2 a1))) none)
theorem laws_szProof_ok {ρ : Type} (k : Int → Option ρ) (a0 : TProof) (a1 : Int) (l_a0 : (True ∧ lnL (fun _ => True) a0.2)) (g : G.laws_szProof a0 a1 = true) : laws_szProof k  a0 a1 = k (N.laws_szProof a0 a1) := by
  unfold G.laws_szProof at g
  show cond (gL a1) _ none = _
  rw [g]
  exact sz_last
def OP_laws_szProof (f_laws_szIntS : (List Int) → Int → Int) (g_laws_szIntS : (List Int) → Int → Bool) : Orac := (orcX 40 [.val (.slice 3 (.int .i64)), .val (.int .i64)] (fun d => g_laws_szIntS d.1 d.2.1) (fun d => [⟨(.int .i64), f_laws_szIntS d.1 d.2.1⟩]) nilO)
def O_laws_szProof : Orac := OP_laws_szProof N.laws_szIntS G.laws_szIntS
def laws_szProof_P {ρ : Type} (f_laws_szIntS : (List Int) → Int → Int) (g_laws_szIntS : (List Int) → Int → Bool) (k : Int → Option ρ) (a0 : TProof) (a1 : Int) : Option ρ := (cond (g_laws_szIntS a0.2 a1) (cond (decide ((f_laws_szIntS a0.2 a1) < (0 : Int))) (k (-1 : Int)) (k (f_laws_szIntS a0.2 a1))) none)
theorem ok_laws_szProof : OracOk Try.prog sigs O_laws_szProof := (orcX_ok rfl (fun d g => said_laws_szIntS d.1 d.2.1 g) nilO_ok)
def A_laws_szProof : Ann := fun b => ⟨[], []⟩
theorem aP_laws_szProof (f_laws_szIntS : (List Int) → Int → Int) (g_laws_szIntS : (List Int) → Int → Bool) (n : Nat) (a0 : TProof) (a1 : Int) : absF tab sigs (OP_laws_szProof f_laws_szIntS g_laws_szIntS) A_laws_szProof Try.f10 [((.int .i64), .no)] n [.val (.pair (.int .i64) (.slice 3 (.int .i64))) a0, .val (.int .i64) a1] = laws_szProof_P f_laws_szIntS g_laws_szIntS (fun r0 => some [⟨(.int .i64), r0⟩])  a0 a1 := by kernel_rfl
theorem a_laws_szProof (n : Nat) (a0 : TProof) (a1 : Int) : absF tab sigs O_laws_szProof A_laws_szProof Try.f10 [((.int .i64), .no)] n [.val (.pair (.int .i64) (.slice 3 (.int .i64))) a0, .val (.int .i64) a1] = laws_szProof (fun r0 => some [⟨(.int .i64), r0⟩])  a0 a1 := aP_laws_szProof N.laws_szIntS G.laws_szIntS n a0 a1
theorem said_laws_szProof (a0 : TProof) (a1 : Int) (g : G.laws_szProof a0 a1 = true) : Said Try.prog sigs_10 10 [.val (.pair (.int .i64) (.slice 3 (.int .i64))) a0, .val (.int .i64) a1] [⟨(.int .i64), N.laws_szProof a0 a1⟩] := said_len (T := tab) (A := A_laws_szProof) tabOk ok_laws_szProof tabOk.follows Try.func10 (by kernel_rfl) (by kernel_rfl) (fun hl => ⟨0, (a_laws_szProof 0 a0 a1).trans (laws_szProof_ok (ρ := Ret) (fun r0 => some [⟨(.int .i64), r0⟩]) a0 a1 hl.1 g)⟩)
/-! laws.toStringS -/
abbrev G.laws_toStringS (a : List ByteArray) : Bool := decide (a.length ≤ 1048576)
abbrev N.laws_toStringS (a : List ByteArray) : List ByteArray := a
def laws_toStringS_L0 {ρ : Type} (k : (List ByteArray) → Option ρ) (L0 : (List ByteArray) → Int → (List ByteArray) → Option ρ) (v0_0 : (List ByteArray)) (v0_1 : Int) (v0_2 : (List ByteArray)) : Option ρ := (cond (decide (v0_1 < (List.length v0_0 : Int))) (cond (inRange v0_1 (List.length v0_0)) (cond (inRange v0_1 (List.length v0_2)) (cond (inRange v0_1 (List.length v0_2)) (L0 v0_0 (IntKind.wrap .i64 (v0_1 + (1 : Int))) (List.set v0_2 (Int.toNat v0_1) (List.getD v0_0 (Int.toNat v0_1) ByteArray.empty))) none) none) none) (k v0_2))
def laws_toStringS {ρ : Type} (k : (List ByteArray) → Option ρ) (L0 : (List ByteArray) → Int → (List ByteArray) → Option ρ) (a0 : (List ByteArray)) : Option ρ := (cond (decide (0 ≤ (List.length a0 : Int)) && decide ((List.length a0 : Int) ≤ 1099511627776)) (L0 a0 (0 : Int) (List.replicate (Int.toNat (List.length a0 : Int)) ByteArray.empty)) none)
theorem laws_toStringS_ok {ρ : Type} (k : (List ByteArray) → Option ρ) (a0 : (List ByteArray)) (l_a0 : lnL (fun _ => True) a0) (g : G.laws_toStringS a0 = true) : ∃ n0, ∀ n, n0 ≤ n → ∀ (L0 : Nat → (List ByteArray) → Int → (List ByteArray) → Option ρ) (h0 : ∀ ( m : Nat) (v0_0 : (List ByteArray)) (v0_1 : Int) (v0_2 : (List ByteArray)), L0 (m + 1) v0_0 v0_1 v0_2 = laws_toStringS_L0 k (L0 m) v0_0 v0_1 v0_2), laws_toStringS k (L0 n) a0 = k (N.laws_toStringS a0) := by
  unfold G.laws_toStringS at g
  refine ⟨a0.length + 1, fun n hn L0 h0 => ?_⟩
  have g' : a0.length ≤ 1048576 := by simpa using g
  have hg : (decide (0 ≤ (a0.length : Int)) && decide ((a0.length : Int) ≤ 1099511627776)) = true := by simp; omega
  show cond _ _ none = _
  rw [hg]
  refine (raw_copy (a := a0) ByteArray.empty ByteArray.empty (fun x => x) (k := k) (L := fun m i out => L0 m a0 i out) (R := fun i out c => laws_toStringS_L0 k (fun _ i out => c i out) a0 i out) (fun m i s => h0 m a0 i s) (fun j out c hj hl => ?_) (fun s c => ?_) hn).trans (by simp)
  · simp [laws_toStringS_L0, lt_nat, inRange_nat, hj, hl, wrap_succ (j := j) (by unfold big; omega)]
  · simp [laws_toStringS_L0]
def O_laws_toStringS : Orac := nilO
theorem ok_laws_toStringS : OracOk Try.prog sigs O_laws_toStringS := nilO_ok
def A_laws_toStringS : Ann := fun b => cond (Nat.beq b 0) ⟨[(0, false), (3, true), (4, false)], []⟩ (⟨[], []⟩)
def S_laws_toStringS_0 (v0_0 : (List ByteArray)) (v0_1 : Int) (v0_2 : (List ByteArray)) : St := [(kT 0, some (.tv (.v (.slice 9 .str) v0_0 .no))), (kT 3, some (.tv (.v (.slice 9 .str) [] (.own 24)))), (kT 4, some (.tv (.v (.int .i64) v0_1 .no))), (kR 24, some (.row 9 .str v0_2))]
noncomputable def L_laws_toStringS_0 (n m : Nat) : St → Option Ret := loopOf tab sigs O_laws_toStringS A_laws_toStringS Try.f45 [((.slice 9 .str), (.own 0))] n (fun _ => 0) 0 m
theorem b_laws_toStringS_0 (n m : Nat) (v0_0 : (List ByteArray)) (v0_1 : Int) (v0_2 : (List ByteArray)) : L_laws_toStringS_0 n (m + 1) (S_laws_toStringS_0 v0_0 v0_1 v0_2) = laws_toStringS_L0 (fun r0 => some [⟨(.slice 9 .str), r0⟩]) (fun v0_0 v0_1 v0_2 => L_laws_toStringS_0 n m (S_laws_toStringS_0 v0_0 v0_1 v0_2)) v0_0 v0_1 v0_2 := by kernel_rfl
theorem a_laws_toStringS (n : Nat) (a0 : (List ByteArray)) : absF tab sigs O_laws_toStringS A_laws_toStringS Try.f45 [((.slice 9 .str), (.own 0))] n [.val (.slice 9 .str) a0] = laws_toStringS (fun r0 => some [⟨(.slice 9 .str), r0⟩]) (fun v0_0 v0_1 v0_2 => L_laws_toStringS_0 n n (S_laws_toStringS_0 v0_0 v0_1 v0_2)) a0 := by kernel_rfl
theorem said_laws_toStringS (a0 : (List ByteArray)) (g : G.laws_toStringS a0 = true) : Said Try.prog sigs_45 45 [.val (.slice 9 .str) a0] [⟨(.slice 9 .str), N.laws_toStringS a0⟩] := said_len (T := tab) (A := A_laws_toStringS) tabOk ok_laws_toStringS tabOk.follows Try.func45 (by kernel_rfl) (by kernel_rfl) (fun hl => let ⟨n, hn⟩ := laws_toStringS_ok (ρ := Ret) (fun r0 => some [⟨(.slice 9 .str), r0⟩]) a0 hl.1 g; ⟨n, (a_laws_toStringS n a0).trans (hn n (Nat.le_refl n) (fun  m v0_0 v0_1 v0_2 => L_laws_toStringS_0 n  m (S_laws_toStringS_0 v0_0 v0_1 v0_2)) (fun  m v0_0 v0_1 v0_2 => b_laws_toStringS_0 n  m v0_0 v0_1 v0_2))⟩)
/-! laws.toEntry -/
abbrev G.laws_toEntry (a : TEntry) : Bool := decide (wE a ≤ 1048576)
abbrev N.laws_toEntry (a : TEntry) : TEntry := a
def laws_toEntry {ρ : Type} (k : TEntry → Option ρ) (a0 : TEntry) : Option ρ := (cond (G.laws_toStringS a0.2.2.2) (k (a0.1, (a0.2.1, (a0.2.2.1, (N.laws_toStringS a0.2.2.2))))) none)
theorem laws_toEntry_ok {ρ : Type} (k : TEntry → Option ρ) (a0 : TEntry) (l_a0 : (True ∧ (True ∧ (True ∧ lnL (fun _ => True) a0.2.2.2)))) (g : G.laws_toEntry a0 = true) : laws_toEntry k  a0 = k (N.laws_toEntry a0) := by
  unfold G.laws_toEntry at g
  have g' : wE a0 ≤ 1048576 := by simpa using g
  unfold wE wP at g'
  have g1 : decide (a0.2.2.2.length ≤ 1048576) = true := by simp; omega
  simp only [laws_toEntry, G.laws_toStringS, g1, cond_true]
def OP_laws_toEntry (f_laws_toStringS : (List ByteArray) → (List ByteArray)) (g_laws_toStringS : (List ByteArray) → Bool) : Orac := (orcX 45 [.val (.slice 9 .str)] (fun d => g_laws_toStringS d.1) (fun d => [⟨(.slice 9 .str), f_laws_toStringS d.1⟩]) nilO)
def O_laws_toEntry : Orac := OP_laws_toEntry N.laws_toStringS G.laws_toStringS
def laws_toEntry_P {ρ : Type} (f_laws_toStringS : (List ByteArray) → (List ByteArray)) (g_laws_toStringS : (List ByteArray) → Bool) (k : TEntry → Option ρ) (a0 : TEntry) : Option ρ := (cond (g_laws_toStringS a0.2.2.2) (k (a0.1, (a0.2.1, (a0.2.2.1, (f_laws_toStringS a0.2.2.2))))) none)
theorem ok_laws_toEntry : OracOk Try.prog sigs O_laws_toEntry := (orcX_ok rfl (fun d g => said_laws_toStringS d.1 g) nilO_ok)
def A_laws_toEntry : Ann := fun b => ⟨[], []⟩
theorem aP_laws_toEntry (f_laws_toStringS : (List ByteArray) → (List ByteArray)) (g_laws_toStringS : (List ByteArray) → Bool) (n : Nat) (a0 : TEntry) : absF tab sigs (OP_laws_toEntry f_laws_toStringS g_laws_toStringS) A_laws_toEntry Try.f12 [((.pair .str (.pair (.int .i64) (.pair (.int .i64) (.slice 9 .str)))), (.pair .no (.pair .no (.pair .no (.own 0)))))] n [.val (.pair .str (.pair (.int .i64) (.pair (.int .i64) (.slice 9 .str)))) a0] = laws_toEntry_P f_laws_toStringS g_laws_toStringS (fun r0 => some [⟨(.pair .str (.pair (.int .i64) (.pair (.int .i64) (.slice 9 .str)))), r0⟩])  a0 := by kernel_rfl
theorem a_laws_toEntry (n : Nat) (a0 : TEntry) : absF tab sigs O_laws_toEntry A_laws_toEntry Try.f12 [((.pair .str (.pair (.int .i64) (.pair (.int .i64) (.slice 9 .str)))), (.pair .no (.pair .no (.pair .no (.own 0)))))] n [.val (.pair .str (.pair (.int .i64) (.pair (.int .i64) (.slice 9 .str)))) a0] = laws_toEntry (fun r0 => some [⟨(.pair .str (.pair (.int .i64) (.pair (.int .i64) (.slice 9 .str)))), r0⟩])  a0 := aP_laws_toEntry N.laws_toStringS G.laws_toStringS n a0
theorem said_laws_toEntry (a0 : TEntry) (g : G.laws_toEntry a0 = true) : Said Try.prog sigs_12 12 [.val (.pair .str (.pair (.int .i64) (.pair (.int .i64) (.slice 9 .str)))) a0] [⟨(.pair .str (.pair (.int .i64) (.pair (.int .i64) (.slice 9 .str)))), N.laws_toEntry a0⟩] := said_len (T := tab) (A := A_laws_toEntry) tabOk ok_laws_toEntry tabOk.follows Try.func12 (by kernel_rfl) (by kernel_rfl) (fun hl => ⟨0, (a_laws_toEntry 0 a0).trans (laws_toEntry_ok (ρ := Ret) (fun r0 => some [⟨(.pair .str (.pair (.int .i64) (.pair (.int .i64) (.slice 9 .str)))), r0⟩]) a0 hl.1 g)⟩)
/-! laws.toIntS -/
abbrev G.laws_toIntS (a : List Int) : Bool := decide (a.length ≤ 1048576)
abbrev N.laws_toIntS (a : List Int) : List Int := a
def laws_toIntS_L0 {ρ : Type} (k : (List Int) → Option ρ) (L0 : (List Int) → Int → (List Int) → Option ρ) (v0_0 : (List Int)) (v0_1 : Int) (v0_2 : (List Int)) : Option ρ := (cond (decide (v0_1 < (List.length v0_0 : Int))) (cond (inRange v0_1 (List.length v0_0)) (cond (inRange v0_1 (List.length v0_2)) (cond (inRange v0_1 (List.length v0_2)) (L0 v0_0 (IntKind.wrap .i64 (v0_1 + (1 : Int))) (List.set v0_2 (Int.toNat v0_1) (List.getD v0_0 (Int.toNat v0_1) (0 : Int)))) none) none) none) (k v0_2))
def laws_toIntS {ρ : Type} (k : (List Int) → Option ρ) (L0 : (List Int) → Int → (List Int) → Option ρ) (a0 : (List Int)) : Option ρ := (cond (decide (0 ≤ (List.length a0 : Int)) && decide ((List.length a0 : Int) ≤ 1099511627776)) (L0 a0 (0 : Int) (List.replicate (Int.toNat (List.length a0 : Int)) (0 : Int))) none)
theorem laws_toIntS_ok {ρ : Type} (k : (List Int) → Option ρ) (a0 : (List Int)) (l_a0 : lnL (fun _ => True) a0) (g : G.laws_toIntS a0 = true) : ∃ n0, ∀ n, n0 ≤ n → ∀ (L0 : Nat → (List Int) → Int → (List Int) → Option ρ) (h0 : ∀ ( m : Nat) (v0_0 : (List Int)) (v0_1 : Int) (v0_2 : (List Int)), L0 (m + 1) v0_0 v0_1 v0_2 = laws_toIntS_L0 k (L0 m) v0_0 v0_1 v0_2), laws_toIntS k (L0 n) a0 = k (N.laws_toIntS a0) := by
  unfold G.laws_toIntS at g
  refine ⟨a0.length + 1, fun n hn L0 h0 => ?_⟩
  have g' : a0.length ≤ 1048576 := by simpa using g
  have hg : (decide (0 ≤ (a0.length : Int)) && decide ((a0.length : Int) ≤ 1099511627776)) = true := by simp; omega
  show cond _ _ none = _
  rw [hg]
  refine (raw_copy (a := a0) 0 0 (fun x => x) (k := k) (L := fun m i out => L0 m a0 i out) (R := fun i out c => laws_toIntS_L0 k (fun _ i out => c i out) a0 i out) (fun m i s => h0 m a0 i s) (fun j out c hj hl => ?_) (fun s c => ?_) hn).trans (by simp)
  · simp [laws_toIntS_L0, lt_nat, inRange_nat, hj, hl, wrap_succ (j := j) (by unfold big; omega)]
  · simp [laws_toIntS_L0]
def O_laws_toIntS : Orac := nilO
theorem ok_laws_toIntS : OracOk Try.prog sigs O_laws_toIntS := nilO_ok
def A_laws_toIntS : Ann := fun b => cond (Nat.beq b 0) ⟨[(0, false), (3, true), (4, false)], []⟩ (⟨[], []⟩)
def S_laws_toIntS_0 (v0_0 : (List Int)) (v0_1 : Int) (v0_2 : (List Int)) : St := [(kT 0, some (.tv (.v (.slice 3 (.int .i64)) v0_0 .no))), (kT 3, some (.tv (.v (.slice 3 (.int .i64)) [] (.own 24)))), (kT 4, some (.tv (.v (.int .i64) v0_1 .no))), (kR 24, some (.row 3 (.int .i64) v0_2))]
noncomputable def L_laws_toIntS_0 (n m : Nat) : St → Option Ret := loopOf tab sigs O_laws_toIntS A_laws_toIntS Try.f46 [((.slice 3 (.int .i64)), (.own 0))] n (fun _ => 0) 0 m
theorem b_laws_toIntS_0 (n m : Nat) (v0_0 : (List Int)) (v0_1 : Int) (v0_2 : (List Int)) : L_laws_toIntS_0 n (m + 1) (S_laws_toIntS_0 v0_0 v0_1 v0_2) = laws_toIntS_L0 (fun r0 => some [⟨(.slice 3 (.int .i64)), r0⟩]) (fun v0_0 v0_1 v0_2 => L_laws_toIntS_0 n m (S_laws_toIntS_0 v0_0 v0_1 v0_2)) v0_0 v0_1 v0_2 := by kernel_rfl
theorem a_laws_toIntS (n : Nat) (a0 : (List Int)) : absF tab sigs O_laws_toIntS A_laws_toIntS Try.f46 [((.slice 3 (.int .i64)), (.own 0))] n [.val (.slice 3 (.int .i64)) a0] = laws_toIntS (fun r0 => some [⟨(.slice 3 (.int .i64)), r0⟩]) (fun v0_0 v0_1 v0_2 => L_laws_toIntS_0 n n (S_laws_toIntS_0 v0_0 v0_1 v0_2)) a0 := by kernel_rfl
theorem said_laws_toIntS (a0 : (List Int)) (g : G.laws_toIntS a0 = true) : Said Try.prog sigs_46 46 [.val (.slice 3 (.int .i64)) a0] [⟨(.slice 3 (.int .i64)), N.laws_toIntS a0⟩] := said_len (T := tab) (A := A_laws_toIntS) tabOk ok_laws_toIntS tabOk.follows Try.func46 (by kernel_rfl) (by kernel_rfl) (fun hl => let ⟨n, hn⟩ := laws_toIntS_ok (ρ := Ret) (fun r0 => some [⟨(.slice 3 (.int .i64)), r0⟩]) a0 hl.1 g; ⟨n, (a_laws_toIntS n a0).trans (hn n (Nat.le_refl n) (fun  m v0_0 v0_1 v0_2 => L_laws_toIntS_0 n  m (S_laws_toIntS_0 v0_0 v0_1 v0_2)) (fun  m v0_0 v0_1 v0_2 => b_laws_toIntS_0 n  m v0_0 v0_1 v0_2))⟩)
/-! laws.toProof -/
abbrev G.laws_toProof (a : TProof) : Bool := decide (wPr a ≤ 1048576)
abbrev N.laws_toProof (a : TProof) : TProof := a
def laws_toProof {ρ : Type} (k : TProof → Option ρ) (a0 : TProof) : Option ρ := (cond (G.laws_toIntS a0.2) (k (a0.1, (N.laws_toIntS a0.2))) none)
theorem laws_toProof_ok {ρ : Type} (k : TProof → Option ρ) (a0 : TProof) (l_a0 : (True ∧ lnL (fun _ => True) a0.2)) (g : G.laws_toProof a0 = true) : laws_toProof k  a0 = k (N.laws_toProof a0) := by
  unfold G.laws_toProof at g
  show cond (decide (wPr a0 ≤ 1048576)) _ none = _
  rw [g]
  rfl
def OP_laws_toProof (f_laws_toIntS : (List Int) → (List Int)) (g_laws_toIntS : (List Int) → Bool) : Orac := (orcX 46 [.val (.slice 3 (.int .i64))] (fun d => g_laws_toIntS d.1) (fun d => [⟨(.slice 3 (.int .i64)), f_laws_toIntS d.1⟩]) nilO)
def O_laws_toProof : Orac := OP_laws_toProof N.laws_toIntS G.laws_toIntS
def laws_toProof_P {ρ : Type} (f_laws_toIntS : (List Int) → (List Int)) (g_laws_toIntS : (List Int) → Bool) (k : TProof → Option ρ) (a0 : TProof) : Option ρ := (cond (g_laws_toIntS a0.2) (k (a0.1, (f_laws_toIntS a0.2))) none)
theorem ok_laws_toProof : OracOk Try.prog sigs O_laws_toProof := (orcX_ok rfl (fun d g => said_laws_toIntS d.1 g) nilO_ok)
def A_laws_toProof : Ann := fun b => ⟨[], []⟩
theorem aP_laws_toProof (f_laws_toIntS : (List Int) → (List Int)) (g_laws_toIntS : (List Int) → Bool) (n : Nat) (a0 : TProof) : absF tab sigs (OP_laws_toProof f_laws_toIntS g_laws_toIntS) A_laws_toProof Try.f13 [((.pair (.int .i64) (.slice 3 (.int .i64))), (.pair .no (.own 0)))] n [.val (.pair (.int .i64) (.slice 3 (.int .i64))) a0] = laws_toProof_P f_laws_toIntS g_laws_toIntS (fun r0 => some [⟨(.pair (.int .i64) (.slice 3 (.int .i64))), r0⟩])  a0 := by kernel_rfl
theorem a_laws_toProof (n : Nat) (a0 : TProof) : absF tab sigs O_laws_toProof A_laws_toProof Try.f13 [((.pair (.int .i64) (.slice 3 (.int .i64))), (.pair .no (.own 0)))] n [.val (.pair (.int .i64) (.slice 3 (.int .i64))) a0] = laws_toProof (fun r0 => some [⟨(.pair (.int .i64) (.slice 3 (.int .i64))), r0⟩])  a0 := aP_laws_toProof N.laws_toIntS G.laws_toIntS n a0
theorem said_laws_toProof (a0 : TProof) (g : G.laws_toProof a0 = true) : Said Try.prog sigs_13 13 [.val (.pair (.int .i64) (.slice 3 (.int .i64))) a0] [⟨(.pair (.int .i64) (.slice 3 (.int .i64))), N.laws_toProof a0⟩] := said_len (T := tab) (A := A_laws_toProof) tabOk ok_laws_toProof tabOk.follows Try.func13 (by kernel_rfl) (by kernel_rfl) (fun hl => ⟨0, (a_laws_toProof 0 a0).trans (laws_toProof_ok (ρ := Ret) (fun r0 => some [⟨(.pair (.int .i64) (.slice 3 (.int .i64))), r0⟩]) a0 hl.1 g)⟩)
/-! spec.BytesToInts -/
abbrev G.spec_BytesToInts (b : List Int) : Bool := decide (b.length ≤ 1048577)
abbrev N.spec_BytesToInts (b : List Int) : List Int := bytesInts b
def spec_BytesToInts_L0 {ρ : Type} (k : (List Int) → Option ρ) (L0 : (List Int) → Int → (List Int) → Option ρ) (v0_0 : (List Int)) (v0_1 : Int) (v0_2 : (List Int)) : Option ρ := (cond (decide (v0_1 < (List.length v0_0 : Int))) (cond (inRange v0_1 (List.length v0_0)) (cond (fit (List.length v0_2) (List.length [(IntKind.wrap .i64 (List.getD v0_0 (Int.toNat v0_1) (0 : Int)))])) (L0 v0_0 (IntKind.wrap .i64 (v0_1 + (1 : Int))) (List.append v0_2 [(IntKind.wrap .i64 (List.getD v0_0 (Int.toNat v0_1) (0 : Int)))])) none) none) (k v0_2))
def spec_BytesToInts {ρ : Type} (k : (List Int) → Option ρ) (L0 : (List Int) → Int → (List Int) → Option ρ) (a0 : (List Int)) : Option ρ := (L0 a0 (0 : Int) [(List.length a0 : Int)])
theorem spec_BytesToInts_ok {ρ : Type} (k : (List Int) → Option ρ) (a0 : (List Int)) (l_a0 : lnL (fun _ => True) a0) (g : G.spec_BytesToInts a0 = true) : ∃ n0, ∀ n, n0 ≤ n → ∀ (L0 : Nat → (List Int) → Int → (List Int) → Option ρ) (h0 : ∀ ( m : Nat) (v0_0 : (List Int)) (v0_1 : Int) (v0_2 : (List Int)), L0 (m + 1) v0_0 v0_1 v0_2 = spec_BytesToInts_L0 k (L0 m) v0_0 v0_1 v0_2), spec_BytesToInts k (L0 n) a0 = k (N.spec_BytesToInts a0) := by
  unfold G.spec_BytesToInts at g
  have hlen : a0.length ≤ 1048577 := of_decide_eq_true g
  refine ⟨a0.length + 1, fun n hn L0 h0 => ?_⟩
  refine (raw_foldl (a := a0) 0 (fun o x => o ++ [IntKind.wrap .i64 x]) (k := k) (s := [(a0.length : Int)]) (L := fun m i s => L0 m a0 i s) (R := fun i s c => spec_BytesToInts_L0 k (fun _ i s => c i s) a0 i s) (fun m i s => h0 m a0 i s) (fun j o => o.length ≤ j + 1) (fun j s c hj hI => ?_) (fun j s hj hI => by simp; exact hI) (fun s c => ?_) hn (by simp)).trans (by rw [foldl_app]; rfl)
  · have : j < big := by unfold big; omega
    have e3 : fit s.length 1 = true := fit_of (by omega)
    simp only [spec_BytesToInts_L0, lt_nat, inRange_nat, decide_eq_true hj, cond_true, Int.toNat_natCast, List.length_singleton, e3, wrap_succ this, List.append_eq]
  · simp [spec_BytesToInts_L0]
def O_spec_BytesToInts : Orac := nilO
theorem ok_spec_BytesToInts : OracOk Try.prog sigs O_spec_BytesToInts := nilO_ok
def A_spec_BytesToInts : Ann := fun b => cond (Nat.beq b 0) ⟨[(0, false), (3, true), (4, false)], []⟩ (⟨[], []⟩)
def S_spec_BytesToInts_0 (v0_0 : (List Int)) (v0_1 : Int) (v0_2 : (List Int)) : St := [(kT 0, some (.tv (.v (.slice 5 (.int .u8)) v0_0 .no))), (kT 3, some (.tv (.v (.slice 3 (.int .i64)) [] (.own 24)))), (kT 4, some (.tv (.v (.int .i64) v0_1 .no))), (kR 24, some (.row 3 (.int .i64) v0_2))]
noncomputable def L_spec_BytesToInts_0 (n m : Nat) : St → Option Ret := loopOf tab sigs O_spec_BytesToInts A_spec_BytesToInts Try.f119 [((.slice 3 (.int .i64)), (.own 0))] n (fun _ => 0) 0 m
theorem b_spec_BytesToInts_0 (n m : Nat) (v0_0 : (List Int)) (v0_1 : Int) (v0_2 : (List Int)) : L_spec_BytesToInts_0 n (m + 1) (S_spec_BytesToInts_0 v0_0 v0_1 v0_2) = spec_BytesToInts_L0 (fun r0 => some [⟨(.slice 3 (.int .i64)), r0⟩]) (fun v0_0 v0_1 v0_2 => L_spec_BytesToInts_0 n m (S_spec_BytesToInts_0 v0_0 v0_1 v0_2)) v0_0 v0_1 v0_2 := by kernel_rfl
theorem a_spec_BytesToInts (n : Nat) (a0 : (List Int)) : absF tab sigs O_spec_BytesToInts A_spec_BytesToInts Try.f119 [((.slice 3 (.int .i64)), (.own 0))] n [.val (.slice 5 (.int .u8)) a0] = spec_BytesToInts (fun r0 => some [⟨(.slice 3 (.int .i64)), r0⟩]) (fun v0_0 v0_1 v0_2 => L_spec_BytesToInts_0 n n (S_spec_BytesToInts_0 v0_0 v0_1 v0_2)) a0 := by kernel_rfl
theorem said_spec_BytesToInts (a0 : (List Int)) (g : G.spec_BytesToInts a0 = true) : Said Try.prog sigs_119 119 [.val (.slice 5 (.int .u8)) a0] [⟨(.slice 3 (.int .i64)), N.spec_BytesToInts a0⟩] := said_len (T := tab) (A := A_spec_BytesToInts) tabOk ok_spec_BytesToInts tabOk.follows Try.func119 (by kernel_rfl) (by kernel_rfl) (fun hl => let ⟨n, hn⟩ := spec_BytesToInts_ok (ρ := Ret) (fun r0 => some [⟨(.slice 3 (.int .i64)), r0⟩]) a0 hl.1 g; ⟨n, (a_spec_BytesToInts n a0).trans (hn n (Nat.le_refl n) (fun  m v0_0 v0_1 v0_2 => L_spec_BytesToInts_0 n  m (S_spec_BytesToInts_0 v0_0 v0_1 v0_2)) (fun  m v0_0 v0_1 v0_2 => b_spec_BytesToInts_0 n  m v0_0 v0_1 v0_2))⟩)
/-! spec.LabelInts -/
abbrev G.spec_LabelInts (s : ByteArray) : Bool := decide (s.size ≤ 1048576)
abbrev N.spec_LabelInts (s : ByteArray) : List Int := labelInts s
def spec_LabelInts {ρ : Type} (k : (List Int) → Option ρ) (a0 : ByteArray) : Option ρ := (cond (decide ((ByteArray.size a0 : Int) ≤ 1099511627776)) (cond (G.spec_BytesToInts (bytesOf a0)) (k (N.spec_BytesToInts (bytesOf a0))) none) none)
theorem spec_LabelInts_ok {ρ : Type} (k : (List Int) → Option ρ) (a0 : ByteArray) (g : G.spec_LabelInts a0 = true) : spec_LabelInts k  a0 = k (N.spec_LabelInts a0) := by
  unfold G.spec_LabelInts at g
  have h : a0.size ≤ 1048576 := of_decide_eq_true g
  have h1 : decide ((a0.size : Int) ≤ 1099511627776) = true := by simp; omega
  have h2 : G.spec_BytesToInts (bytesOf a0) = true := decide_eq_true (by rw [bytesOf_length]; omega)
  show cond _ (cond _ _ none) none = _
  rw [h1, h2]
  rfl
def OP_spec_LabelInts (f_spec_BytesToInts : (List Int) → (List Int)) (g_spec_BytesToInts : (List Int) → Bool) : Orac := (orcX 119 [.val (.slice 5 (.int .u8))] (fun d => g_spec_BytesToInts d.1) (fun d => [⟨(.slice 3 (.int .i64)), f_spec_BytesToInts d.1⟩]) nilO)
def O_spec_LabelInts : Orac := OP_spec_LabelInts N.spec_BytesToInts G.spec_BytesToInts
def spec_LabelInts_P {ρ : Type} (f_spec_BytesToInts : (List Int) → (List Int)) (g_spec_BytesToInts : (List Int) → Bool) (k : (List Int) → Option ρ) (a0 : ByteArray) : Option ρ := (cond (decide ((ByteArray.size a0 : Int) ≤ 1099511627776)) (cond (g_spec_BytesToInts (bytesOf a0)) (k (f_spec_BytesToInts (bytesOf a0))) none) none)
theorem ok_spec_LabelInts : OracOk Try.prog sigs O_spec_LabelInts := (orcX_ok rfl (fun d g => said_spec_BytesToInts d.1 g) nilO_ok)
def A_spec_LabelInts : Ann := fun b => ⟨[], []⟩
theorem aP_spec_LabelInts (f_spec_BytesToInts : (List Int) → (List Int)) (g_spec_BytesToInts : (List Int) → Bool) (n : Nat) (a0 : ByteArray) : absF tab sigs (OP_spec_LabelInts f_spec_BytesToInts g_spec_BytesToInts) A_spec_LabelInts Try.f109 [((.slice 3 (.int .i64)), (.own 0))] n [.val .str a0] = spec_LabelInts_P f_spec_BytesToInts g_spec_BytesToInts (fun r0 => some [⟨(.slice 3 (.int .i64)), r0⟩])  a0 := by kernel_rfl
theorem a_spec_LabelInts (n : Nat) (a0 : ByteArray) : absF tab sigs O_spec_LabelInts A_spec_LabelInts Try.f109 [((.slice 3 (.int .i64)), (.own 0))] n [.val .str a0] = spec_LabelInts (fun r0 => some [⟨(.slice 3 (.int .i64)), r0⟩])  a0 := aP_spec_LabelInts N.spec_BytesToInts G.spec_BytesToInts n a0
theorem said_spec_LabelInts (a0 : ByteArray) (g : G.spec_LabelInts a0 = true) : Said Try.prog sigs_109 109 [.val .str a0] [⟨(.slice 3 (.int .i64)), N.spec_LabelInts a0⟩] := said_len (T := tab) (A := A_spec_LabelInts) tabOk ok_spec_LabelInts tabOk.follows Try.func109 (by kernel_rfl) (by kernel_rfl) (fun hl => ⟨0, (a_spec_LabelInts 0 a0).trans (spec_LabelInts_ok (ρ := Ret) (fun r0 => some [⟨(.slice 3 (.int .i64)), r0⟩]) a0 g)⟩)
/-! spec.EntryInts -/
abbrev G.spec_EntryInts (e : TEntry) : Bool := decide (wE e ≤ 1048576)
abbrev N.spec_EntryInts (e : TEntry) : List Int := entryInts e
def spec_EntryInts_L0 {ρ : Type} (k : (List Int) → Option ρ) (L0 : Int → TEntry → (List Int) → Option ρ) (v0_0 : Int) (v0_1 : TEntry) (v0_2 : (List Int)) : Option ρ := (cond (decide (v0_0 < (List.length v0_1.2.2.2 : Int))) (cond (inRange v0_0 (List.length v0_1.2.2.2)) (cond (G.spec_LabelInts (List.getD v0_1.2.2.2 (Int.toNat v0_0) ByteArray.empty)) (cond (fit (List.length v0_2) (List.length (N.spec_LabelInts (List.getD v0_1.2.2.2 (Int.toNat v0_0) ByteArray.empty)))) (L0 (IntKind.wrap .i64 (v0_0 + (1 : Int))) v0_1 (List.append v0_2 (N.spec_LabelInts (List.getD v0_1.2.2.2 (Int.toNat v0_0) ByteArray.empty)))) none) none) none) (k v0_2))
def spec_EntryInts {ρ : Type} (k : (List Int) → Option ρ) (L0 : Int → TEntry → (List Int) → Option ρ) (a0 : TEntry) : Option ρ := (cond (G.spec_LabelInts a0.1) (cond (fit (List.length (N.spec_LabelInts a0.1)) (List.length [a0.2.1, a0.2.2.1, (List.length a0.2.2.2 : Int)])) (L0 (0 : Int) a0 (List.append (N.spec_LabelInts a0.1) [a0.2.1, a0.2.2.1, (List.length a0.2.2.2 : Int)])) none) none)
theorem spec_EntryInts_ok {ρ : Type} (k : (List Int) → Option ρ) (a0 : TEntry) (l_a0 : (True ∧ (True ∧ (True ∧ lnL (fun _ => True) a0.2.2.2)))) (g : G.spec_EntryInts a0 = true) : ∃ n0, ∀ n, n0 ≤ n → ∀ (L0 : Nat → Int → TEntry → (List Int) → Option ρ) (h0 : ∀ ( m : Nat) (v0_0 : Int) (v0_1 : TEntry) (v0_2 : (List Int)), L0 (m + 1) v0_0 v0_1 v0_2 = spec_EntryInts_L0 k (L0 m) v0_0 v0_1 v0_2), spec_EntryInts k (L0 n) a0 = k (N.spec_EntryInts a0) := by
  unfold G.spec_EntryInts at g
  have hw : wE a0 ≤ 1048576 := of_decide_eq_true g
  have hw2 : a0.1.size + (a0.2.2.2.length + wsum ByteArray.size a0.2.2.2) ≤ 1048576 := hw
  have g1 : decide (a0.1.size ≤ 1048576) = true := by simp; omega
  have f1 : fit (labelInts a0.1).length 3 = true := fit_of (by rw [labelInts_len]; omega)
  refine ⟨a0.2.2.2.length + 1, fun n hn L0 h0 => ?_⟩
  show cond (decide (a0.1.size ≤ 1048576)) (cond (fit (labelInts a0.1).length 3) (L0 n 0 a0 (labelInts a0.1 ++ [a0.2.1, a0.2.2.1, (a0.2.2.2.length : Int)])) none) none = k (entryInts a0)
  rw [g1, f1]
  have key := raw_run0 (σ := List Int) (L := fun m i s => L0 m i a0 s) (R := fun i s c => spec_EntryInts_L0 k (fun i _ s => c i s) i a0 s) (fun m i s => h0 m i a0 s) a0.2.2.2.length (fun j s => s.length + wP (a0.2.2.2.drop j) ≤ 4194304) (fun j s => k (s ++ (a0.2.2.2.drop j).flatMap labelInts)) (fun j s c hj hI hc => ?_) (fun s c _ => ?_) hn (s := labelInts a0.1 ++ [a0.2.1, a0.2.2.1, (a0.2.2.2.length : Int)]) (by rw [List.drop_zero, List.length_append, labelInts_len]; unfold wP; simp; omega)
  · rw [List.drop_zero] at key
    exact key
  · have hd := drop_cons ByteArray.empty hj
    have hp : wP (a0.2.2.2.drop j) = 1 + (a0.2.2.2.getD j ByteArray.empty).size + wP (a0.2.2.2.drop (j + 1)) := by
      rw [hd]
      unfold wP
      rw [List.length_cons]
      show _ + (_ + _) = _
      omega
    have hm := wsum_mem (wt := ByteArray.size) (getD_mem (d := ByteArray.empty) hj)
    have g2 : decide ((a0.2.2.2.getD j ByteArray.empty).size ≤ 1048576) = true := by simp only [decide_eq_true_eq]; omega
    have e3 : fit s.length (labelInts (a0.2.2.2.getD j ByteArray.empty)).length = true := fit_of (by rw [labelInts_len]; omega)
    have := hc (s ++ labelInts (a0.2.2.2.getD j ByteArray.empty)) (by rw [List.length_append, labelInts_len]; omega)
    simp only [spec_EntryInts_L0, lt_nat, inRange_nat, decide_eq_true hj, cond_true, Int.toNat_natCast, G.spec_LabelInts, N.spec_LabelInts, g2, e3, wrap_succ (j := j) (by unfold big; omega), List.append_eq, this]
    rw [hd]
    simp
  · simp [spec_EntryInts_L0]
def OP_spec_EntryInts (f_spec_LabelInts : ByteArray → (List Int)) (g_spec_LabelInts : ByteArray → Bool) : Orac := (orcX 109 [.val .str] (fun d => g_spec_LabelInts d.1) (fun d => [⟨(.slice 3 (.int .i64)), f_spec_LabelInts d.1⟩]) nilO)
def O_spec_EntryInts : Orac := OP_spec_EntryInts N.spec_LabelInts G.spec_LabelInts
def spec_EntryInts_P_L0 {ρ : Type} (f_spec_LabelInts : ByteArray → (List Int)) (g_spec_LabelInts : ByteArray → Bool) (k : (List Int) → Option ρ) (L0 : Int → TEntry → (List Int) → Option ρ) (v0_0 : Int) (v0_1 : TEntry) (v0_2 : (List Int)) : Option ρ := (cond (decide (v0_0 < (List.length v0_1.2.2.2 : Int))) (cond (inRange v0_0 (List.length v0_1.2.2.2)) (cond (g_spec_LabelInts (List.getD v0_1.2.2.2 (Int.toNat v0_0) ByteArray.empty)) (cond (fit (List.length v0_2) (List.length (f_spec_LabelInts (List.getD v0_1.2.2.2 (Int.toNat v0_0) ByteArray.empty)))) (L0 (IntKind.wrap .i64 (v0_0 + (1 : Int))) v0_1 (List.append v0_2 (f_spec_LabelInts (List.getD v0_1.2.2.2 (Int.toNat v0_0) ByteArray.empty)))) none) none) none) (k v0_2))
def spec_EntryInts_P {ρ : Type} (f_spec_LabelInts : ByteArray → (List Int)) (g_spec_LabelInts : ByteArray → Bool) (k : (List Int) → Option ρ) (L0 : Int → TEntry → (List Int) → Option ρ) (a0 : TEntry) : Option ρ := (cond (g_spec_LabelInts a0.1) (cond (fit (List.length (f_spec_LabelInts a0.1)) (List.length [a0.2.1, a0.2.2.1, (List.length a0.2.2.2 : Int)])) (L0 (0 : Int) a0 (List.append (f_spec_LabelInts a0.1) [a0.2.1, a0.2.2.1, (List.length a0.2.2.2 : Int)])) none) none)
theorem ok_spec_EntryInts : OracOk Try.prog sigs O_spec_EntryInts := (orcX_ok rfl (fun d g => said_spec_LabelInts d.1 g) nilO_ok)
def A_spec_EntryInts : Ann := fun b => cond (Nat.beq b 0) ⟨[(1, false), (3, true), (4, false)], [(1, false)]⟩ (⟨[], []⟩)
def S_spec_EntryInts_0 (v0_0 : Int) (v0_1 : TEntry) (v0_2 : (List Int)) : St := [(kT 1, some (.tv (.box 1 []))), (kT 3, some (.tv (.v (.slice 3 (.int .i64)) [] (.own 24)))), (kT 4, some (.tv (.v (.int .i64) v0_0 .no))), (kB 1, some (.box (.pair .str (.pair (.int .i64) (.pair (.int .i64) (.slice 9 .str)))) v0_1 .no)), (kR 24, some (.row 3 (.int .i64) v0_2))]
noncomputable def L_P_spec_EntryInts_0 (f_spec_LabelInts : ByteArray → (List Int)) (g_spec_LabelInts : ByteArray → Bool) (n m : Nat) : St → Option Ret := loopOf tab sigs (OP_spec_EntryInts f_spec_LabelInts g_spec_LabelInts) A_spec_EntryInts Try.f87 [((.slice 3 (.int .i64)), (.own 0))] n (fun _ => 0) 0 m
noncomputable def L_spec_EntryInts_0 (n m : Nat) : St → Option Ret := L_P_spec_EntryInts_0 N.spec_LabelInts G.spec_LabelInts n m
theorem bP_spec_EntryInts_0 (f_spec_LabelInts : ByteArray → (List Int)) (g_spec_LabelInts : ByteArray → Bool) (n m : Nat) (v0_0 : Int) (v0_1 : TEntry) (v0_2 : (List Int)) : L_P_spec_EntryInts_0 f_spec_LabelInts g_spec_LabelInts n (m + 1) (S_spec_EntryInts_0 v0_0 v0_1 v0_2) = spec_EntryInts_P_L0 f_spec_LabelInts g_spec_LabelInts (fun r0 => some [⟨(.slice 3 (.int .i64)), r0⟩]) (fun v0_0 v0_1 v0_2 => L_P_spec_EntryInts_0 f_spec_LabelInts g_spec_LabelInts n m (S_spec_EntryInts_0 v0_0 v0_1 v0_2)) v0_0 v0_1 v0_2 := by kernel_rfl
theorem b_spec_EntryInts_0 (n m : Nat) (v0_0 : Int) (v0_1 : TEntry) (v0_2 : (List Int)) : L_spec_EntryInts_0 n (m + 1) (S_spec_EntryInts_0 v0_0 v0_1 v0_2) = spec_EntryInts_L0 (fun r0 => some [⟨(.slice 3 (.int .i64)), r0⟩]) (fun v0_0 v0_1 v0_2 => L_spec_EntryInts_0 n m (S_spec_EntryInts_0 v0_0 v0_1 v0_2)) v0_0 v0_1 v0_2 := bP_spec_EntryInts_0 N.spec_LabelInts G.spec_LabelInts n m v0_0 v0_1 v0_2
theorem aP_spec_EntryInts (f_spec_LabelInts : ByteArray → (List Int)) (g_spec_LabelInts : ByteArray → Bool) (n : Nat) (a0 : TEntry) : absF tab sigs (OP_spec_EntryInts f_spec_LabelInts g_spec_LabelInts) A_spec_EntryInts Try.f87 [((.slice 3 (.int .i64)), (.own 0))] n [.val (.pair .str (.pair (.int .i64) (.pair (.int .i64) (.slice 9 .str)))) a0] = spec_EntryInts_P f_spec_LabelInts g_spec_LabelInts (fun r0 => some [⟨(.slice 3 (.int .i64)), r0⟩]) (fun v0_0 v0_1 v0_2 => L_P_spec_EntryInts_0 f_spec_LabelInts g_spec_LabelInts n n (S_spec_EntryInts_0 v0_0 v0_1 v0_2)) a0 := by kernel_rfl
theorem a_spec_EntryInts (n : Nat) (a0 : TEntry) : absF tab sigs O_spec_EntryInts A_spec_EntryInts Try.f87 [((.slice 3 (.int .i64)), (.own 0))] n [.val (.pair .str (.pair (.int .i64) (.pair (.int .i64) (.slice 9 .str)))) a0] = spec_EntryInts (fun r0 => some [⟨(.slice 3 (.int .i64)), r0⟩]) (fun v0_0 v0_1 v0_2 => L_spec_EntryInts_0 n n (S_spec_EntryInts_0 v0_0 v0_1 v0_2)) a0 := aP_spec_EntryInts N.spec_LabelInts G.spec_LabelInts n a0
theorem said_spec_EntryInts (a0 : TEntry) (g : G.spec_EntryInts a0 = true) : Said Try.prog sigs_87 87 [.val (.pair .str (.pair (.int .i64) (.pair (.int .i64) (.slice 9 .str)))) a0] [⟨(.slice 3 (.int .i64)), N.spec_EntryInts a0⟩] := said_len (T := tab) (A := A_spec_EntryInts) tabOk ok_spec_EntryInts tabOk.follows Try.func87 (by kernel_rfl) (by kernel_rfl) (fun hl => let ⟨n, hn⟩ := spec_EntryInts_ok (ρ := Ret) (fun r0 => some [⟨(.slice 3 (.int .i64)), r0⟩]) a0 hl.1 g; ⟨n, (a_spec_EntryInts n a0).trans (hn n (Nat.le_refl n) (fun  m v0_0 v0_1 v0_2 => L_spec_EntryInts_0 n  m (S_spec_EntryInts_0 v0_0 v0_1 v0_2)) (fun  m v0_0 v0_1 v0_2 => b_spec_EntryInts_0 n  m v0_0 v0_1 v0_2))⟩)
/-! spec.l1In -/
abbrev N.spec_l1In (n lo hi : Int) : Bool := inR n lo hi
def spec_l1In {ρ : Type} (k : Bool → Option ρ) (a0 : Int) (a1 : Int) (a2 : Int) : Option ρ := (cond (decide (a0 ≥ a1)) (k (decide (a0 ≤ a2))) (k false))
theorem spec_l1In_ok {ρ : Type} (k : Bool → Option ρ) (a0 : Int) (a1 : Int) (a2 : Int) : spec_l1In k  a0 a1 a2 = k (N.spec_l1In a0 a1 a2) := by
  simp only [spec_l1In, inR, ge_iff_le]
  cases decide (a1 ≤ a0) <;> rfl
def O_spec_l1In : Orac := nilO
theorem ok_spec_l1In : OracOk Try.prog sigs O_spec_l1In := nilO_ok
def A_spec_l1In : Ann := fun b => ⟨[], []⟩
theorem a_spec_l1In (n : Nat) (a0 : Int) (a1 : Int) (a2 : Int) : absF tab sigs O_spec_l1In A_spec_l1In Try.f68 [(.bool, .no)] n [.val (.int .i64) a0, .val (.int .i64) a1, .val (.int .i64) a2] = spec_l1In (fun r0 => some [⟨.bool, r0⟩])  a0 a1 a2 := by kernel_rfl
theorem said_spec_l1In (a0 : Int) (a1 : Int) (a2 : Int) : Said Try.prog sigs_68 68 [.val (.int .i64) a0, .val (.int .i64) a1, .val (.int .i64) a2] [⟨.bool, N.spec_l1In a0 a1 a2⟩] := said_len (T := tab) (A := A_spec_l1In) tabOk ok_spec_l1In tabOk.follows Try.func68 (by kernel_rfl) (by kernel_rfl) (fun hl => ⟨0, (a_spec_l1In 0 a0 a1 a2).trans (spec_l1In_ok (ρ := Ret) (fun r0 => some [⟨.bool, r0⟩]) a0 a1 a2)⟩)
/-! spec.Mod -/
abbrev N.spec_Mod (n m : Int) : Int := modM n m
def spec_Mod {ρ : Type} (k : Int → Option ρ) (a0 : Int) (a1 : Int) : Option ρ := (cond (!(N.spec_l1In a1 (1 : Int) (1000000000000 : Int))) (k (0 : Int)) (cond (!(decide (a1 = 0))) (cond (!(decide (a1 = 0))) (k (Int.tmod (IntKind.wrap .i64 ((Int.tmod a0 a1) + a1)) a1)) none) none))
theorem spec_Mod_ok {ρ : Type} (k : Int → Option ρ) (a0 : Int) (a1 : Int) : spec_Mod k  a0 a1 = k (N.spec_Mod a0 a1) := by
  simp only [spec_Mod, N.spec_l1In, modM]
  cases h : inR a1 1 1000000000000
  · rfl
  · have h1 : 1 ≤ a1 := by
      unfold inR at h
      simp only [Bool.and_eq_true, decide_eq_true_eq] at h
      exact h.1
    have h2 : decide (a1 = 0) = false := by simp; omega
    simp [h2]
def OP_spec_Mod (f_spec_l1In : Int → Int → Int → Bool) : Orac := (orcX 68 [.val (.int .i64), .val (.int .i64), .val (.int .i64)] (fun d => true) (fun d => [⟨.bool, f_spec_l1In d.1 d.2.1 d.2.2.1⟩]) nilO)
def O_spec_Mod : Orac := OP_spec_Mod N.spec_l1In
def spec_Mod_P {ρ : Type} (f_spec_l1In : Int → Int → Int → Bool) (k : Int → Option ρ) (a0 : Int) (a1 : Int) : Option ρ := (cond (!(f_spec_l1In a1 (1 : Int) (1000000000000 : Int))) (k (0 : Int)) (cond (!(decide (a1 = 0))) (cond (!(decide (a1 = 0))) (k (Int.tmod (IntKind.wrap .i64 ((Int.tmod a0 a1) + a1)) a1)) none) none))
theorem ok_spec_Mod : OracOk Try.prog sigs O_spec_Mod := (orcX_ok rfl (fun d g => said_spec_l1In d.1 d.2.1 d.2.2.1) nilO_ok)
def A_spec_Mod : Ann := fun b => ⟨[], []⟩
theorem aP_spec_Mod (f_spec_l1In : Int → Int → Int → Bool) (n : Nat) (a0 : Int) (a1 : Int) : absF tab sigs (OP_spec_Mod f_spec_l1In) A_spec_Mod Try.f108 [((.int .i64), .no)] n [.val (.int .i64) a0, .val (.int .i64) a1] = spec_Mod_P f_spec_l1In (fun r0 => some [⟨(.int .i64), r0⟩])  a0 a1 := by kernel_rfl
theorem a_spec_Mod (n : Nat) (a0 : Int) (a1 : Int) : absF tab sigs O_spec_Mod A_spec_Mod Try.f108 [((.int .i64), .no)] n [.val (.int .i64) a0, .val (.int .i64) a1] = spec_Mod (fun r0 => some [⟨(.int .i64), r0⟩])  a0 a1 := aP_spec_Mod N.spec_l1In n a0 a1
theorem said_spec_Mod (a0 : Int) (a1 : Int) : Said Try.prog sigs_108 108 [.val (.int .i64) a0, .val (.int .i64) a1] [⟨(.int .i64), N.spec_Mod a0 a1⟩] := said_len (T := tab) (A := A_spec_Mod) tabOk ok_spec_Mod tabOk.follows Try.func108 (by kernel_rfl) (by kernel_rfl) (fun hl => ⟨0, (a_spec_Mod 0 a0 a1).trans (spec_Mod_ok (ρ := Ret) (fun r0 => some [⟨(.int .i64), r0⟩]) a0 a1)⟩)
/-! spec.Hash -/
abbrev N.spec_Hash (l : List Int) : Int := hash l
def spec_Hash_L0 {ρ : Type} (k : Int → Option ρ) (L0 : (List Int) → Int → Int → Option ρ) (v0_0 : (List Int)) (v0_1 : Int) (v0_2 : Int) : Option ρ := (cond (decide (v0_2 < (List.length v0_0 : Int))) (cond (inRange v0_2 (List.length v0_0)) (L0 v0_0 (Int.tmod (IntKind.wrap .i64 ((IntKind.wrap .i64 ((IntKind.wrap .i64 (v0_1 * (1000003 : Int))) + (N.spec_Mod (List.getD v0_0 (Int.toNat v0_2) (0 : Int)) (2147483647 : Int)))) + (13 : Int))) (2147483647 : Int)) (IntKind.wrap .i64 (v0_2 + (1 : Int)))) none) (k v0_1))
def spec_Hash {ρ : Type} (k : Int → Option ρ) (L0 : (List Int) → Int → Int → Option ρ) (a0 : (List Int)) : Option ρ := (L0 a0 (11 : Int) (0 : Int))
theorem spec_Hash_ok {ρ : Type} (k : Int → Option ρ) (a0 : (List Int)) (l_a0 : lnL (fun _ => True) a0) : ∃ n0, ∀ n, n0 ≤ n → ∀ (L0 : Nat → (List Int) → Int → Int → Option ρ) (h0 : ∀ ( m : Nat) (v0_0 : (List Int)) (v0_1 : Int) (v0_2 : Int), L0 (m + 1) v0_0 v0_1 v0_2 = spec_Hash_L0 k (L0 m) v0_0 v0_1 v0_2), spec_Hash k (L0 n) a0 = k (N.spec_Hash a0) := by
  refine ⟨a0.length + 1, fun n hn L0 h0 => ?_⟩
  refine raw_foldl (a := a0) 0 hashStep (k := k) (L := fun m i s => L0 m a0 s i) (R := fun i s c => spec_Hash_L0 k (fun _ s i => c i s) a0 s i) (fun m i s => h0 m a0 s i) (fun _ _ => True) (fun j s c hj _ => ?_) (fun _ _ _ _ => trivial) (fun s c => ?_) hn trivial
  · have : j < big := by have := l_a0.1; omega
    simp [spec_Hash_L0, lt_nat, inRange_nat, hj, wrap_succ this, hashStep]
  · simp [spec_Hash_L0]
def OP_spec_Hash (f_spec_Mod : Int → Int → Int) : Orac := (orcX 108 [.val (.int .i64), .val (.int .i64)] (fun d => true) (fun d => [⟨(.int .i64), f_spec_Mod d.1 d.2.1⟩]) nilO)
def O_spec_Hash : Orac := OP_spec_Hash N.spec_Mod
def spec_Hash_P_L0 {ρ : Type} (f_spec_Mod : Int → Int → Int) (k : Int → Option ρ) (L0 : (List Int) → Int → Int → Option ρ) (v0_0 : (List Int)) (v0_1 : Int) (v0_2 : Int) : Option ρ := (cond (decide (v0_2 < (List.length v0_0 : Int))) (cond (inRange v0_2 (List.length v0_0)) (L0 v0_0 (Int.tmod (IntKind.wrap .i64 ((IntKind.wrap .i64 ((IntKind.wrap .i64 (v0_1 * (1000003 : Int))) + (f_spec_Mod (List.getD v0_0 (Int.toNat v0_2) (0 : Int)) (2147483647 : Int)))) + (13 : Int))) (2147483647 : Int)) (IntKind.wrap .i64 (v0_2 + (1 : Int)))) none) (k v0_1))
def spec_Hash_P {ρ : Type} (f_spec_Mod : Int → Int → Int) (k : Int → Option ρ) (L0 : (List Int) → Int → Int → Option ρ) (a0 : (List Int)) : Option ρ := (L0 a0 (11 : Int) (0 : Int))
theorem ok_spec_Hash : OracOk Try.prog sigs O_spec_Hash := (orcX_ok rfl (fun d g => said_spec_Mod d.1 d.2.1) nilO_ok)
def A_spec_Hash : Ann := fun b => cond (Nat.beq b 0) ⟨[(0, false), (3, false), (4, false)], []⟩ (⟨[], []⟩)
def S_spec_Hash_0 (v0_0 : (List Int)) (v0_1 : Int) (v0_2 : Int) : St := [(kT 0, some (.tv (.v (.slice 3 (.int .i64)) v0_0 .no))), (kT 3, some (.tv (.v (.int .i64) v0_1 .no))), (kT 4, some (.tv (.v (.int .i64) v0_2 .no)))]
noncomputable def L_P_spec_Hash_0 (f_spec_Mod : Int → Int → Int) (n m : Nat) : St → Option Ret := loopOf tab sigs (OP_spec_Hash f_spec_Mod) A_spec_Hash Try.f86 [((.int .i64), .no)] n (fun _ => 0) 0 m
noncomputable def L_spec_Hash_0 (n m : Nat) : St → Option Ret := L_P_spec_Hash_0 N.spec_Mod n m
theorem bP_spec_Hash_0 (f_spec_Mod : Int → Int → Int) (n m : Nat) (v0_0 : (List Int)) (v0_1 : Int) (v0_2 : Int) : L_P_spec_Hash_0 f_spec_Mod n (m + 1) (S_spec_Hash_0 v0_0 v0_1 v0_2) = spec_Hash_P_L0 f_spec_Mod (fun r0 => some [⟨(.int .i64), r0⟩]) (fun v0_0 v0_1 v0_2 => L_P_spec_Hash_0 f_spec_Mod n m (S_spec_Hash_0 v0_0 v0_1 v0_2)) v0_0 v0_1 v0_2 := by kernel_rfl
theorem b_spec_Hash_0 (n m : Nat) (v0_0 : (List Int)) (v0_1 : Int) (v0_2 : Int) : L_spec_Hash_0 n (m + 1) (S_spec_Hash_0 v0_0 v0_1 v0_2) = spec_Hash_L0 (fun r0 => some [⟨(.int .i64), r0⟩]) (fun v0_0 v0_1 v0_2 => L_spec_Hash_0 n m (S_spec_Hash_0 v0_0 v0_1 v0_2)) v0_0 v0_1 v0_2 := bP_spec_Hash_0 N.spec_Mod n m v0_0 v0_1 v0_2
theorem aP_spec_Hash (f_spec_Mod : Int → Int → Int) (n : Nat) (a0 : (List Int)) : absF tab sigs (OP_spec_Hash f_spec_Mod) A_spec_Hash Try.f86 [((.int .i64), .no)] n [.val (.slice 3 (.int .i64)) a0] = spec_Hash_P f_spec_Mod (fun r0 => some [⟨(.int .i64), r0⟩]) (fun v0_0 v0_1 v0_2 => L_P_spec_Hash_0 f_spec_Mod n n (S_spec_Hash_0 v0_0 v0_1 v0_2)) a0 := by kernel_rfl
theorem a_spec_Hash (n : Nat) (a0 : (List Int)) : absF tab sigs O_spec_Hash A_spec_Hash Try.f86 [((.int .i64), .no)] n [.val (.slice 3 (.int .i64)) a0] = spec_Hash (fun r0 => some [⟨(.int .i64), r0⟩]) (fun v0_0 v0_1 v0_2 => L_spec_Hash_0 n n (S_spec_Hash_0 v0_0 v0_1 v0_2)) a0 := aP_spec_Hash N.spec_Mod n a0
theorem said_spec_Hash (a0 : (List Int)) : Said Try.prog sigs_86 86 [.val (.slice 3 (.int .i64)) a0] [⟨(.int .i64), N.spec_Hash a0⟩] := said_len (T := tab) (A := A_spec_Hash) tabOk ok_spec_Hash tabOk.follows Try.func86 (by kernel_rfl) (by kernel_rfl) (fun hl => let ⟨n, hn⟩ := spec_Hash_ok (ρ := Ret) (fun r0 => some [⟨(.int .i64), r0⟩]) a0 hl.1; ⟨n, (a_spec_Hash n a0).trans (hn n (Nat.le_refl n) (fun  m v0_0 v0_1 v0_2 => L_spec_Hash_0 n  m (S_spec_Hash_0 v0_0 v0_1 v0_2)) (fun  m v0_0 v0_1 v0_2 => b_spec_Hash_0 n  m v0_0 v0_1 v0_2))⟩)
/-! spec.LeafOf -/
abbrev G.spec_LeafOf (e : TEntry) : Bool := decide (wE e ≤ 1048576)
abbrev N.spec_LeafOf (e : TEntry) : Int := leafOf e
def spec_LeafOf {ρ : Type} (k : Int → Option ρ) (a0 : TEntry) : Option ρ := (cond (G.spec_EntryInts a0) (cond (fit (List.length [(227 : Int)]) (List.length (N.spec_EntryInts a0))) (k (N.spec_Hash (List.append [(227 : Int)] (N.spec_EntryInts a0)))) none) none)
theorem spec_LeafOf_ok {ρ : Type} (k : Int → Option ρ) (a0 : TEntry) (l_a0 : (True ∧ (True ∧ (True ∧ lnL (fun _ => True) a0.2.2.2)))) (g : G.spec_LeafOf a0 = true) : spec_LeafOf k  a0 = k (N.spec_LeafOf a0) := by
  unfold G.spec_LeafOf at g
  have hw : wE a0 ≤ 1048576 := of_decide_eq_true g
  have f1 : fit 1 (entryInts a0).length = true := fit_of (by rw [entryInts_len]; omega)
  show cond (decide (wE a0 ≤ 1048576)) (cond (fit 1 (entryInts a0).length) _ none) none = _
  rw [g, f1]
  rfl
def OP_spec_LeafOf (f_spec_EntryInts : TEntry → (List Int)) (g_spec_EntryInts : TEntry → Bool) (f_spec_Hash : (List Int) → Int) : Orac := (orcX 86 [.val (.slice 3 (.int .i64))] (fun d => true) (fun d => [⟨(.int .i64), f_spec_Hash d.1⟩]) (orcX 87 [.val (.pair .str (.pair (.int .i64) (.pair (.int .i64) (.slice 9 .str))))] (fun d => g_spec_EntryInts d.1) (fun d => [⟨(.slice 3 (.int .i64)), f_spec_EntryInts d.1⟩]) nilO))
def O_spec_LeafOf : Orac := OP_spec_LeafOf N.spec_EntryInts G.spec_EntryInts N.spec_Hash
def spec_LeafOf_P {ρ : Type} (f_spec_EntryInts : TEntry → (List Int)) (g_spec_EntryInts : TEntry → Bool) (f_spec_Hash : (List Int) → Int) (k : Int → Option ρ) (a0 : TEntry) : Option ρ := (cond (g_spec_EntryInts a0) (cond (fit (List.length [(227 : Int)]) (List.length (f_spec_EntryInts a0))) (k (f_spec_Hash (List.append [(227 : Int)] (f_spec_EntryInts a0)))) none) none)
theorem ok_spec_LeafOf : OracOk Try.prog sigs O_spec_LeafOf := (orcX_ok rfl (fun d g => said_spec_Hash d.1) (orcX_ok rfl (fun d g => said_spec_EntryInts d.1 g) nilO_ok))
def A_spec_LeafOf : Ann := fun b => ⟨[], []⟩
theorem aP_spec_LeafOf (f_spec_EntryInts : TEntry → (List Int)) (g_spec_EntryInts : TEntry → Bool) (f_spec_Hash : (List Int) → Int) (n : Nat) (a0 : TEntry) : absF tab sigs (OP_spec_LeafOf f_spec_EntryInts g_spec_EntryInts f_spec_Hash) A_spec_LeafOf Try.f42 [((.int .i64), .no)] n [.val (.pair .str (.pair (.int .i64) (.pair (.int .i64) (.slice 9 .str)))) a0] = spec_LeafOf_P f_spec_EntryInts g_spec_EntryInts f_spec_Hash (fun r0 => some [⟨(.int .i64), r0⟩])  a0 := by kernel_rfl
theorem a_spec_LeafOf (n : Nat) (a0 : TEntry) : absF tab sigs O_spec_LeafOf A_spec_LeafOf Try.f42 [((.int .i64), .no)] n [.val (.pair .str (.pair (.int .i64) (.pair (.int .i64) (.slice 9 .str)))) a0] = spec_LeafOf (fun r0 => some [⟨(.int .i64), r0⟩])  a0 := aP_spec_LeafOf N.spec_EntryInts G.spec_EntryInts N.spec_Hash n a0
theorem said_spec_LeafOf (a0 : TEntry) (g : G.spec_LeafOf a0 = true) : Said Try.prog sigs_42 42 [.val (.pair .str (.pair (.int .i64) (.pair (.int .i64) (.slice 9 .str)))) a0] [⟨(.int .i64), N.spec_LeafOf a0⟩] := said_len (T := tab) (A := A_spec_LeafOf) tabOk ok_spec_LeafOf tabOk.follows Try.func42 (by kernel_rfl) (by kernel_rfl) (fun hl => ⟨0, (a_spec_LeafOf 0 a0).trans (spec_LeafOf_ok (ρ := Ret) (fun r0 => some [⟨(.int .i64), r0⟩]) a0 hl.1 g)⟩)
/-! spec.NodeOf -/
abbrev N.spec_NodeOf (a b : Int) : Int := nodeOf a b
def spec_NodeOf {ρ : Type} (k : Int → Option ρ) (a0 : Int) (a1 : Int) : Option ρ := (k (N.spec_Hash [(229 : Int), a0, a1]))
theorem spec_NodeOf_ok {ρ : Type} (k : Int → Option ρ) (a0 : Int) (a1 : Int) : spec_NodeOf k  a0 a1 = k (N.spec_NodeOf a0 a1) := by
  rfl
def OP_spec_NodeOf (f_spec_Hash : (List Int) → Int) : Orac := (orcX 86 [.val (.slice 3 (.int .i64))] (fun d => true) (fun d => [⟨(.int .i64), f_spec_Hash d.1⟩]) nilO)
def O_spec_NodeOf : Orac := OP_spec_NodeOf N.spec_Hash
def spec_NodeOf_P {ρ : Type} (f_spec_Hash : (List Int) → Int) (k : Int → Option ρ) (a0 : Int) (a1 : Int) : Option ρ := (k (f_spec_Hash [(229 : Int), a0, a1]))
theorem ok_spec_NodeOf : OracOk Try.prog sigs O_spec_NodeOf := (orcX_ok rfl (fun d g => said_spec_Hash d.1) nilO_ok)
def A_spec_NodeOf : Ann := fun b => ⟨[], []⟩
theorem aP_spec_NodeOf (f_spec_Hash : (List Int) → Int) (n : Nat) (a0 : Int) (a1 : Int) : absF tab sigs (OP_spec_NodeOf f_spec_Hash) A_spec_NodeOf Try.f85 [((.int .i64), .no)] n [.val (.int .i64) a0, .val (.int .i64) a1] = spec_NodeOf_P f_spec_Hash (fun r0 => some [⟨(.int .i64), r0⟩])  a0 a1 := by kernel_rfl
theorem a_spec_NodeOf (n : Nat) (a0 : Int) (a1 : Int) : absF tab sigs O_spec_NodeOf A_spec_NodeOf Try.f85 [((.int .i64), .no)] n [.val (.int .i64) a0, .val (.int .i64) a1] = spec_NodeOf (fun r0 => some [⟨(.int .i64), r0⟩])  a0 a1 := aP_spec_NodeOf N.spec_Hash n a0 a1
theorem said_spec_NodeOf (a0 : Int) (a1 : Int) : Said Try.prog sigs_85 85 [.val (.int .i64) a0, .val (.int .i64) a1] [⟨(.int .i64), N.spec_NodeOf a0 a1⟩] := said_len (T := tab) (A := A_spec_NodeOf) tabOk ok_spec_NodeOf tabOk.follows Try.func85 (by kernel_rfl) (by kernel_rfl) (fun hl => ⟨0, (a_spec_NodeOf 0 a0 a1).trans (spec_NodeOf_ok (ρ := Ret) (fun r0 => some [⟨(.int .i64), r0⟩]) a0 a1)⟩)
/-! spec.TopFrom -/
abbrev N.spec_TopFrom (leaf i n : Int) (path : List Int) : Int × Bool := topFrom leaf i n path
def spec_TopFrom_L0 {ρ : Type} (k : Int → Bool → Option ρ) (L0 : Int → Int → Int → (List Int) → Int → Option ρ) (v0_0 : Int) (v0_1 : Int) (v0_2 : Int) (v0_3 : (List Int)) (v0_4 : Int) : Option ρ := (cond (decide (v0_2 > (1 : Int))) (cond ((Int.tmod v0_1 (2 : Int)) == (1 : Int)) (cond (decide (v0_4 ≥ (List.length v0_3 : Int))) (k (0 : Int) false) (cond ((Int.tmod v0_1 (2 : Int)) == (1 : Int)) (cond (inRange v0_4 (List.length v0_3)) (L0 (N.spec_NodeOf (List.getD v0_3 (Int.toNat v0_4) (0 : Int)) v0_0) (IntKind.wrap .i64 (Int.tdiv v0_1 (2 : Int))) (IntKind.wrap .i64 (Int.tdiv (IntKind.wrap .i64 (v0_2 + (1 : Int))) (2 : Int))) v0_3 (IntKind.wrap .i64 (v0_4 + (1 : Int)))) none) (cond (inRange v0_4 (List.length v0_3)) (L0 (N.spec_NodeOf v0_0 (List.getD v0_3 (Int.toNat v0_4) (0 : Int))) (IntKind.wrap .i64 (Int.tdiv v0_1 (2 : Int))) (IntKind.wrap .i64 (Int.tdiv (IntKind.wrap .i64 (v0_2 + (1 : Int))) (2 : Int))) v0_3 (IntKind.wrap .i64 (v0_4 + (1 : Int)))) none))) (cond (decide ((IntKind.wrap .i64 (v0_1 + (1 : Int))) < v0_2)) (cond (decide (v0_4 ≥ (List.length v0_3 : Int))) (k (0 : Int) false) (cond ((Int.tmod v0_1 (2 : Int)) == (1 : Int)) (cond (inRange v0_4 (List.length v0_3)) (L0 (N.spec_NodeOf (List.getD v0_3 (Int.toNat v0_4) (0 : Int)) v0_0) (IntKind.wrap .i64 (Int.tdiv v0_1 (2 : Int))) (IntKind.wrap .i64 (Int.tdiv (IntKind.wrap .i64 (v0_2 + (1 : Int))) (2 : Int))) v0_3 (IntKind.wrap .i64 (v0_4 + (1 : Int)))) none) (cond (inRange v0_4 (List.length v0_3)) (L0 (N.spec_NodeOf v0_0 (List.getD v0_3 (Int.toNat v0_4) (0 : Int))) (IntKind.wrap .i64 (Int.tdiv v0_1 (2 : Int))) (IntKind.wrap .i64 (Int.tdiv (IntKind.wrap .i64 (v0_2 + (1 : Int))) (2 : Int))) v0_3 (IntKind.wrap .i64 (v0_4 + (1 : Int)))) none))) (L0 v0_0 (IntKind.wrap .i64 (Int.tdiv v0_1 (2 : Int))) (IntKind.wrap .i64 (Int.tdiv (IntKind.wrap .i64 (v0_2 + (1 : Int))) (2 : Int))) v0_3 v0_4))) (cond (v0_4 != (List.length v0_3 : Int)) (k (0 : Int) false) (k v0_0 true)))
def spec_TopFrom {ρ : Type} (k : Int → Bool → Option ρ) (L0 : Int → Int → Int → (List Int) → Int → Option ρ) (a0 : Int) (a1 : Int) (a2 : Int) (a3 : (List Int)) : Option ρ := (cond (!(N.spec_l1In a2 (1 : Int) (12 : Int))) (k (0 : Int) false) (cond (!(N.spec_l1In a1 (0 : Int) (IntKind.wrap .i64 (a2 - (1 : Int))))) (k (0 : Int) false) (L0 a0 a1 a2 a3 (0 : Int))))
theorem spec_TopFrom_ok {ρ : Type} (k : Int → Bool → Option ρ) (a0 : Int) (a1 : Int) (a2 : Int) (a3 : (List Int)) (l_a3 : lnL (fun _ => True) a3) : ∃ n0, ∀ n, n0 ≤ n → ∀ (L0 : Nat → Int → Int → Int → (List Int) → Int → Option ρ) (h0 : ∀ ( m : Nat) (v0_0 : Int) (v0_1 : Int) (v0_2 : Int) (v0_3 : (List Int)) (v0_4 : Int), L0 (m + 1) v0_0 v0_1 v0_2 v0_3 v0_4 = spec_TopFrom_L0 k (L0 m) v0_0 v0_1 v0_2 v0_3 v0_4), spec_TopFrom k (L0 n) a0 a1 a2 a3 = k (N.spec_TopFrom a0 a1 a2 a3).1 (N.spec_TopFrom a0 a1 a2 a3).2 := by
  refine ⟨a2.toNat + 1, fun n hn L0 h0 => ?_⟩
  show spec_TopFrom k (L0 n) a0 a1 a2 a3 = k (topFrom a0 a1 a2 a3).1 (topFrom a0 a1 a2 a3).2
  unfold spec_TopFrom topFrom
  dsimp only [N.spec_l1In]
  cases hn1 : inR a2 1 12 with
  | false => rfl
  | true =>
    have hn2 : 1 ≤ a2 ∧ a2 ≤ 12 := by simpa [inR] using hn1
    rw [wrap_id (n := a2 - 1) (by omega) (by omega)]
    cases hi1 : inR a1 0 (a2 - 1) with
    | false => rfl
    | true =>
      have hi2 : 0 ≤ a1 ∧ a1 ≤ a2 - 1 := by simpa [inR] using hi1
      show L0 n a0 a1 a2 a3 0 = k (tfRes (tfN a2.toNat a0 a1.toNat a2.toNat a3)).1 (tfRes (tfN a2.toNat a0 a1.toNat a2.toNat a3)).2
      refine raw_meas (σ := Int × Int × Int × Int) (L := fun m s => L0 m s.1 s.2.1 s.2.2.1 a3 s.2.2.2) (R := fun s c => spec_TopFrom_L0 k (fun l i n _ u => c (l, i, n, u)) s.1 s.2.1 s.2.2.1 a3 s.2.2.2)
        (fun m s => h0 m _ _ _ _ _) (fun s => 0 ≤ s.2.1 ∧ 1 ≤ s.2.2.1 ∧ s.2.2.1 ≤ 12 ∧ s.2.1 < s.2.2.1 ∧ 0 ≤ s.2.2.2 ∧ s.2.2.2 ≤ a3.length) (fun s => s.2.2.1.toNat) (fun s => k (tfRes (tfN s.2.2.1.toNat s.1 s.2.1.toNat s.2.2.1.toNat (a3.drop s.2.2.2.toNat))).1 (tfRes (tfN s.2.2.1.toNat s.1 s.2.1.toNat s.2.2.1.toNat (a3.drop s.2.2.2.toNat))).2) (fun s c hI hc => ?_) n (a0, a1, a2, 0) ⟨hi2.1, hn2.1, hn2.2, by dsimp only; omega, Int.le_refl 0, by dsimp only; omega⟩ (by dsimp only; omega)
      obtain ⟨l, i, q, u⟩ := s
      obtain ⟨b0, b1, b2, b3, b4, b5⟩ := hI
      dsimp only at b0 b1 b2 b3 b4 b5 hc ⊢
      obtain ⟨i, rfl⟩ := Int.eq_ofNat_of_zero_le b0
      obtain ⟨q, rfl⟩ := Int.eq_ofNat_of_zero_le (a := q) (by omega)
      obtain ⟨u, rfl⟩ := Int.eq_ofNat_of_zero_le b4
      simp only [Int.toNat_natCast] at hc ⊢
      have l3 : a3.length ≤ 9223372036854775807 := l_a3.1
      by_cases h1 : 1 < q
      · obtain ⟨f, rfl⟩ : ∃ f, q = f + 1 := ⟨q - 1, by omega⟩
        have e1 : decide (((f + 1 : Nat) : Int) > 1) = true := by simp; omega
        have t3 : IntKind.wrap .i64 (Int.tdiv (IntKind.wrap .i64 (((f + 1 : Nat) : Int) + 1)) 2) = (((f + 1 + 1) / 2 : Nat) : Int) := by rw [wrap_succ (by unfold big; omega), tdiv2 (by omega)]
        have t4 : u < a3.length → IntKind.wrap .i64 ((u : Int) + 1) = ((u + 1 : Nat) : Int) := fun h => wrap_succ (by unfold big; omega)
        have t5 : IntKind.wrap .i64 ((i : Int) + 1) = ((i + 1 : Nat) : Int) := wrap_succ (by unfold big; omega)
        have hfuel : ∀ leaf path, tfN ((f + 1 + 1) / 2) leaf (i / 2) ((f + 1 + 1) / 2) path = tfN f leaf (i / 2) ((f + 1 + 1) / 2) path := fun leaf path => tfN_more _ _ _ _ _ _ (by omega) (by omega)
        have step : ∀ leaf u', u' ≤ a3.length → c (leaf, ((i / 2 : Nat) : Int), (((f + 1 + 1) / 2 : Nat) : Int), (u' : Int)) = k (tfRes (tfN f leaf (i / 2) ((f + 1 + 1) / 2) (a3.drop u'))).1 (tfRes (tfN f leaf (i / 2) ((f + 1 + 1) / 2) (a3.drop u'))).2 := by
          intro leaf u' hu'
          have := hc (leaf, ((i / 2 : Nat) : Int), (((f + 1 + 1) / 2 : Nat) : Int), (u' : Int)) ⟨by simp; omega, by simp; omega, by simp; omega, by simp; omega, by simp, by simp; omega⟩ (by simp; omega)
          simp only [Int.toNat_natCast] at this
          rw [this, hfuel]
        unfold tfN
        rw [decide_eq_true h1]
        by_cases hodd : i % 2 = 1
        · have o1 : (((i % 2 : Nat) : Int) == 1) = true := by rw [hodd]; rfl
          have o2 : decide (sib i < f + 1) = true := by unfold sib; rw [if_neg (by omega)]; simp; omega
          have o3 : decide (i % 2 = 0) = false := by simp; omega
          by_cases hu : u < a3.length
          · have e5 : decide ((u : Int) ≥ (a3.length : Int)) = false := by simp; omega
            rw [drop_cons 0 hu]
            simp only [spec_TopFrom_L0, e1, tmod2, o1, o2, o3, e5, cond_true, cond_false, inRange_nat, decide_eq_true hu, tdiv2 (i := i) (by omega), t3, t4 hu, Int.toNat_natCast, step _ (u + 1) (by omega)]
          · have e5 : decide ((u : Int) ≥ (a3.length : Int)) = true := by simp; omega
            rw [List.drop_of_length_le (by omega)]
            simp only [spec_TopFrom_L0, e1, tmod2, o1, o2, o3, e5, cond_true, cond_false]
            rfl
        · have o1 : (((i % 2 : Nat) : Int) == 1) = false := by
            have o4 : i % 2 = 0 := by omega
            rw [o4]; rfl
          have o3 : decide (i % 2 = 0) = true := by simp; omega
          by_cases hlt : i + 1 < f + 1
          · have o2 : decide (sib i < f + 1) = true := by unfold sib; rw [if_pos (by omega)]; simpa using hlt
            by_cases hu : u < a3.length
            · have e5 : decide ((u : Int) ≥ (a3.length : Int)) = false := by simp; omega
              rw [drop_cons 0 hu]
              simp only [spec_TopFrom_L0, e1, tmod2, o1, o2, o3, e5, t5, lt_nat, decide_eq_true hlt, cond_true, cond_false, inRange_nat, decide_eq_true hu, tdiv2 (i := i) (by omega), t3, t4 hu, Int.toNat_natCast, step _ (u + 1) (by omega)]
            · have e5 : decide ((u : Int) ≥ (a3.length : Int)) = true := by simp; omega
              rw [List.drop_of_length_le (by omega)]
              simp only [spec_TopFrom_L0, e1, tmod2, o1, o2, o3, e5, t5, lt_nat, decide_eq_true hlt, cond_true, cond_false]
              rfl
          · have o2 : decide (sib i < f + 1) = false := by unfold sib; rw [if_pos (by omega)]; simpa using hlt
            simp only [spec_TopFrom_L0, e1, tmod2, o1, o2, t5, lt_nat, decide_eq_false hlt, cond_true, cond_false, tdiv2 (i := i) (by omega), t3, step _ u (by omega)]
      · have e1 : decide ((q : Int) > 1) = false := by simp; omega
        have e2 : q = 1 := by omega
        subst e2
        unfold tfN
        by_cases hu : u < a3.length
        · have e3 : ((u : Int) != (a3.length : Int)) = true := by simp; omega
          have e4 : ((a3.drop u).length == 0) = false := by rw [List.length_drop]; simp; omega
          simp only [spec_TopFrom_L0, e1, e3, e4, cond_true, cond_false]
          rfl
        · have e3 : ((u : Int) != (a3.length : Int)) = false := by simp; omega
          have e4 : ((a3.drop u).length == 0) = true := by rw [List.length_drop]; simp; omega
          simp only [spec_TopFrom_L0, e1, e3, e4, cond_true, cond_false]
          rfl
def OP_spec_TopFrom (f_spec_l1In : Int → Int → Int → Bool) (f_spec_NodeOf : Int → Int → Int) : Orac := (orcX 85 [.val (.int .i64), .val (.int .i64)] (fun d => true) (fun d => [⟨(.int .i64), f_spec_NodeOf d.1 d.2.1⟩]) (orcX 68 [.val (.int .i64), .val (.int .i64), .val (.int .i64)] (fun d => true) (fun d => [⟨.bool, f_spec_l1In d.1 d.2.1 d.2.2.1⟩]) nilO))
def O_spec_TopFrom : Orac := OP_spec_TopFrom N.spec_l1In N.spec_NodeOf
def spec_TopFrom_P_L0 {ρ : Type} (f_spec_l1In : Int → Int → Int → Bool) (f_spec_NodeOf : Int → Int → Int) (k : Int → Bool → Option ρ) (L0 : Int → Int → Int → (List Int) → Int → Option ρ) (v0_0 : Int) (v0_1 : Int) (v0_2 : Int) (v0_3 : (List Int)) (v0_4 : Int) : Option ρ := (cond (decide (v0_2 > (1 : Int))) (cond ((Int.tmod v0_1 (2 : Int)) == (1 : Int)) (cond (decide (v0_4 ≥ (List.length v0_3 : Int))) (k (0 : Int) false) (cond ((Int.tmod v0_1 (2 : Int)) == (1 : Int)) (cond (inRange v0_4 (List.length v0_3)) (L0 (f_spec_NodeOf (List.getD v0_3 (Int.toNat v0_4) (0 : Int)) v0_0) (IntKind.wrap .i64 (Int.tdiv v0_1 (2 : Int))) (IntKind.wrap .i64 (Int.tdiv (IntKind.wrap .i64 (v0_2 + (1 : Int))) (2 : Int))) v0_3 (IntKind.wrap .i64 (v0_4 + (1 : Int)))) none) (cond (inRange v0_4 (List.length v0_3)) (L0 (f_spec_NodeOf v0_0 (List.getD v0_3 (Int.toNat v0_4) (0 : Int))) (IntKind.wrap .i64 (Int.tdiv v0_1 (2 : Int))) (IntKind.wrap .i64 (Int.tdiv (IntKind.wrap .i64 (v0_2 + (1 : Int))) (2 : Int))) v0_3 (IntKind.wrap .i64 (v0_4 + (1 : Int)))) none))) (cond (decide ((IntKind.wrap .i64 (v0_1 + (1 : Int))) < v0_2)) (cond (decide (v0_4 ≥ (List.length v0_3 : Int))) (k (0 : Int) false) (cond ((Int.tmod v0_1 (2 : Int)) == (1 : Int)) (cond (inRange v0_4 (List.length v0_3)) (L0 (f_spec_NodeOf (List.getD v0_3 (Int.toNat v0_4) (0 : Int)) v0_0) (IntKind.wrap .i64 (Int.tdiv v0_1 (2 : Int))) (IntKind.wrap .i64 (Int.tdiv (IntKind.wrap .i64 (v0_2 + (1 : Int))) (2 : Int))) v0_3 (IntKind.wrap .i64 (v0_4 + (1 : Int)))) none) (cond (inRange v0_4 (List.length v0_3)) (L0 (f_spec_NodeOf v0_0 (List.getD v0_3 (Int.toNat v0_4) (0 : Int))) (IntKind.wrap .i64 (Int.tdiv v0_1 (2 : Int))) (IntKind.wrap .i64 (Int.tdiv (IntKind.wrap .i64 (v0_2 + (1 : Int))) (2 : Int))) v0_3 (IntKind.wrap .i64 (v0_4 + (1 : Int)))) none))) (L0 v0_0 (IntKind.wrap .i64 (Int.tdiv v0_1 (2 : Int))) (IntKind.wrap .i64 (Int.tdiv (IntKind.wrap .i64 (v0_2 + (1 : Int))) (2 : Int))) v0_3 v0_4))) (cond (v0_4 != (List.length v0_3 : Int)) (k (0 : Int) false) (k v0_0 true)))
def spec_TopFrom_P {ρ : Type} (f_spec_l1In : Int → Int → Int → Bool) (f_spec_NodeOf : Int → Int → Int) (k : Int → Bool → Option ρ) (L0 : Int → Int → Int → (List Int) → Int → Option ρ) (a0 : Int) (a1 : Int) (a2 : Int) (a3 : (List Int)) : Option ρ := (cond (!(f_spec_l1In a2 (1 : Int) (12 : Int))) (k (0 : Int) false) (cond (!(f_spec_l1In a1 (0 : Int) (IntKind.wrap .i64 (a2 - (1 : Int))))) (k (0 : Int) false) (L0 a0 a1 a2 a3 (0 : Int))))
theorem ok_spec_TopFrom : OracOk Try.prog sigs O_spec_TopFrom := (orcX_ok rfl (fun d g => said_spec_NodeOf d.1 d.2.1) (orcX_ok rfl (fun d g => said_spec_l1In d.1 d.2.1 d.2.2.1) nilO_ok))
def A_spec_TopFrom : Ann := fun b => cond (Nat.beq b 0) ⟨[(0, false), (1, false), (2, false), (3, false), (10, false)], []⟩ (⟨[], []⟩)
def S_spec_TopFrom_0 (v0_0 : Int) (v0_1 : Int) (v0_2 : Int) (v0_3 : (List Int)) (v0_4 : Int) : St := [(kT 0, some (.tv (.v (.int .i64) v0_0 .no))), (kT 1, some (.tv (.v (.int .i64) v0_1 .no))), (kT 2, some (.tv (.v (.int .i64) v0_2 .no))), (kT 3, some (.tv (.v (.slice 3 (.int .i64)) v0_3 .no))), (kT 10, some (.tv (.v (.int .i64) v0_4 .no)))]
noncomputable def L_P_spec_TopFrom_0 (f_spec_l1In : Int → Int → Int → Bool) (f_spec_NodeOf : Int → Int → Int) (n m : Nat) : St → Option Ret := loopOf tab sigs (OP_spec_TopFrom f_spec_l1In f_spec_NodeOf) A_spec_TopFrom Try.f41 [((.int .i64), .no), (.bool, .no)] n (fun _ => 0) 0 m
noncomputable def L_spec_TopFrom_0 (n m : Nat) : St → Option Ret := L_P_spec_TopFrom_0 N.spec_l1In N.spec_NodeOf n m
theorem bP_spec_TopFrom_0 (f_spec_l1In : Int → Int → Int → Bool) (f_spec_NodeOf : Int → Int → Int) (n m : Nat) (v0_0 : Int) (v0_1 : Int) (v0_2 : Int) (v0_3 : (List Int)) (v0_4 : Int) : L_P_spec_TopFrom_0 f_spec_l1In f_spec_NodeOf n (m + 1) (S_spec_TopFrom_0 v0_0 v0_1 v0_2 v0_3 v0_4) = spec_TopFrom_P_L0 f_spec_l1In f_spec_NodeOf (fun r0 r1 => some [⟨(.int .i64), r0⟩, ⟨.bool, r1⟩]) (fun v0_0 v0_1 v0_2 v0_3 v0_4 => L_P_spec_TopFrom_0 f_spec_l1In f_spec_NodeOf n m (S_spec_TopFrom_0 v0_0 v0_1 v0_2 v0_3 v0_4)) v0_0 v0_1 v0_2 v0_3 v0_4 := by kernel_rfl
theorem b_spec_TopFrom_0 (n m : Nat) (v0_0 : Int) (v0_1 : Int) (v0_2 : Int) (v0_3 : (List Int)) (v0_4 : Int) : L_spec_TopFrom_0 n (m + 1) (S_spec_TopFrom_0 v0_0 v0_1 v0_2 v0_3 v0_4) = spec_TopFrom_L0 (fun r0 r1 => some [⟨(.int .i64), r0⟩, ⟨.bool, r1⟩]) (fun v0_0 v0_1 v0_2 v0_3 v0_4 => L_spec_TopFrom_0 n m (S_spec_TopFrom_0 v0_0 v0_1 v0_2 v0_3 v0_4)) v0_0 v0_1 v0_2 v0_3 v0_4 := bP_spec_TopFrom_0 N.spec_l1In N.spec_NodeOf n m v0_0 v0_1 v0_2 v0_3 v0_4
theorem aP_spec_TopFrom (f_spec_l1In : Int → Int → Int → Bool) (f_spec_NodeOf : Int → Int → Int) (n : Nat) (a0 : Int) (a1 : Int) (a2 : Int) (a3 : (List Int)) : absF tab sigs (OP_spec_TopFrom f_spec_l1In f_spec_NodeOf) A_spec_TopFrom Try.f41 [((.int .i64), .no), (.bool, .no)] n [.val (.int .i64) a0, .val (.int .i64) a1, .val (.int .i64) a2, .val (.slice 3 (.int .i64)) a3] = spec_TopFrom_P f_spec_l1In f_spec_NodeOf (fun r0 r1 => some [⟨(.int .i64), r0⟩, ⟨.bool, r1⟩]) (fun v0_0 v0_1 v0_2 v0_3 v0_4 => L_P_spec_TopFrom_0 f_spec_l1In f_spec_NodeOf n n (S_spec_TopFrom_0 v0_0 v0_1 v0_2 v0_3 v0_4)) a0 a1 a2 a3 := by kernel_rfl
theorem a_spec_TopFrom (n : Nat) (a0 : Int) (a1 : Int) (a2 : Int) (a3 : (List Int)) : absF tab sigs O_spec_TopFrom A_spec_TopFrom Try.f41 [((.int .i64), .no), (.bool, .no)] n [.val (.int .i64) a0, .val (.int .i64) a1, .val (.int .i64) a2, .val (.slice 3 (.int .i64)) a3] = spec_TopFrom (fun r0 r1 => some [⟨(.int .i64), r0⟩, ⟨.bool, r1⟩]) (fun v0_0 v0_1 v0_2 v0_3 v0_4 => L_spec_TopFrom_0 n n (S_spec_TopFrom_0 v0_0 v0_1 v0_2 v0_3 v0_4)) a0 a1 a2 a3 := aP_spec_TopFrom N.spec_l1In N.spec_NodeOf n a0 a1 a2 a3
theorem said_spec_TopFrom (a0 : Int) (a1 : Int) (a2 : Int) (a3 : (List Int)) : Said Try.prog sigs_41 41 [.val (.int .i64) a0, .val (.int .i64) a1, .val (.int .i64) a2, .val (.slice 3 (.int .i64)) a3] [⟨(.int .i64), (N.spec_TopFrom a0 a1 a2 a3).1⟩, ⟨.bool, (N.spec_TopFrom a0 a1 a2 a3).2⟩] := said_len (T := tab) (A := A_spec_TopFrom) tabOk ok_spec_TopFrom tabOk.follows Try.func41 (by kernel_rfl) (by kernel_rfl) (fun hl => let ⟨n, hn⟩ := spec_TopFrom_ok (ρ := Ret) (fun r0 r1 => some [⟨(.int .i64), r0⟩, ⟨.bool, r1⟩]) a0 a1 a2 a3 hl.2.2.2.1; ⟨n, (a_spec_TopFrom n a0 a1 a2 a3).trans (hn n (Nat.le_refl n) (fun  m v0_0 v0_1 v0_2 v0_3 v0_4 => L_spec_TopFrom_0 n  m (S_spec_TopFrom_0 v0_0 v0_1 v0_2 v0_3 v0_4)) (fun  m v0_0 v0_1 v0_2 v0_3 v0_4 => b_spec_TopFrom_0 n  m v0_0 v0_1 v0_2 v0_3 v0_4))⟩)
/-! spec.IsLabel -/
abbrev G.spec_IsLabel (s : ByteArray) : Bool := decide (s.size ≤ 1048576)
abbrev N.spec_IsLabel (s : ByteArray) : Bool := isLabel s
def spec_IsLabel_L0 {ρ : Type} (k : Bool → Option ρ) (L0 : ByteArray → Int → Option ρ) (v0_0 : ByteArray) (v0_1 : Int) : Option ρ := (cond (decide (v0_1 < (ByteArray.size v0_0 : Int))) (cond (inRange v0_1 (ByteArray.size v0_0)) (cond (decide ((bt v0_0 v0_1) < (97 : Int))) (cond (inRange v0_1 (ByteArray.size v0_0)) (cond (decide ((bt v0_0 v0_1) < (48 : Int))) (cond (inRange v0_1 (ByteArray.size v0_0)) (cond ((bt v0_0 v0_1) != (45 : Int)) (k false) (L0 v0_0 (IntKind.wrap .i64 (v0_1 + (1 : Int))))) none) (cond (inRange v0_1 (ByteArray.size v0_0)) (cond (decide ((bt v0_0 v0_1) > (57 : Int))) (cond (inRange v0_1 (ByteArray.size v0_0)) (cond ((bt v0_0 v0_1) != (45 : Int)) (k false) (L0 v0_0 (IntKind.wrap .i64 (v0_1 + (1 : Int))))) none) (L0 v0_0 (IntKind.wrap .i64 (v0_1 + (1 : Int))))) none)) none) (cond (inRange v0_1 (ByteArray.size v0_0)) (cond (decide ((bt v0_0 v0_1) > (122 : Int))) (cond (inRange v0_1 (ByteArray.size v0_0)) (cond (decide ((bt v0_0 v0_1) < (48 : Int))) (cond (inRange v0_1 (ByteArray.size v0_0)) (cond ((bt v0_0 v0_1) != (45 : Int)) (k false) (L0 v0_0 (IntKind.wrap .i64 (v0_1 + (1 : Int))))) none) (cond (inRange v0_1 (ByteArray.size v0_0)) (cond (decide ((bt v0_0 v0_1) > (57 : Int))) (cond (inRange v0_1 (ByteArray.size v0_0)) (cond ((bt v0_0 v0_1) != (45 : Int)) (k false) (L0 v0_0 (IntKind.wrap .i64 (v0_1 + (1 : Int))))) none) (L0 v0_0 (IntKind.wrap .i64 (v0_1 + (1 : Int))))) none)) none) (L0 v0_0 (IntKind.wrap .i64 (v0_1 + (1 : Int))))) none)) none) (k true))
def spec_IsLabel {ρ : Type} (k : Bool → Option ρ) (L0 : ByteArray → Int → Option ρ) (a0 : ByteArray) : Option ρ := (cond (!(N.spec_l1In (ByteArray.size a0 : Int) (1 : Int) (8 : Int))) (k false) (cond (inRange (0 : Int) (ByteArray.size a0)) (cond ((bt a0 (0 : Int)) == (45 : Int)) (k false) (cond (inRange (IntKind.wrap .i64 ((ByteArray.size a0 : Int) - (1 : Int))) (ByteArray.size a0)) (cond ((bt a0 (IntKind.wrap .i64 ((ByteArray.size a0 : Int) - (1 : Int)))) == (45 : Int)) (k false) (L0 a0 (0 : Int))) none)) none))
theorem spec_IsLabel_ok {ρ : Type} (k : Bool → Option ρ) (a0 : ByteArray) (g : G.spec_IsLabel a0 = true) : ∃ n0, ∀ n, n0 ≤ n → ∀ (L0 : Nat → ByteArray → Int → Option ρ) (h0 : ∀ ( m : Nat) (v0_0 : ByteArray) (v0_1 : Int), L0 (m + 1) v0_0 v0_1 = spec_IsLabel_L0 k (L0 m) v0_0 v0_1), spec_IsLabel k (L0 n) a0 = k (N.spec_IsLabel a0) := by
  unfold G.spec_IsLabel at g
  have hlen : a0.size ≤ 1048576 := of_decide_eq_true g
  refine ⟨a0.size + 1, fun n hn L0 h0 => ?_⟩
  show spec_IsLabel k (L0 n) a0 = k (isLabel a0)
  unfold spec_IsLabel isLabel
  dsimp only [N.spec_l1In]
  cases hr : inR (a0.size : Int) 1 8 with
  | false => rfl
  | true =>
    have hr2 : 1 ≤ (a0.size : Int) ∧ (a0.size : Int) ≤ 8 := by simpa [inR] using hr
    have e0 : inRange 0 a0.size = true := by unfold inRange; simp; omega
    have e1 : IntKind.wrap .i64 ((a0.size : Int) - 1) = ((a0.size - 1 : Nat) : Int) := by rw [wrap_id (by omega) (by omega)]; omega
    have e2 : inRange ((a0.size - 1 : Nat) : Int) a0.size = true := by rw [inRange_nat]; simp; omega
    have hrun := raw_run0 (σ := Unit) (s := ()) (L := fun m i _ => L0 m a0 i) (R := fun i _ c => spec_IsLabel_L0 k (fun _ i => c i ()) a0 i) (fun m i s => h0 m a0 i) a0.size (fun _ _ => True) (fun j _ => k (charsFrom a0 (a0.size - j) j)) (fun j s c hj _ hc => ?_) (fun s c _ => ?_) hn trivial
    · rw [e1]
      simp only [e0, e2, cond_true, Bool.not_true, cond_false]
      rw [hrun, Nat.sub_zero, label_edges a0 (by omega)]
      cases bt a0 0 == 45 <;> cases bt a0 ((a0.size - 1 : Nat) : Int) == 45 <;> simp
    · obtain ⟨m, hm⟩ : ∃ m, a0.size - j = m + 1 := ⟨a0.size - j - 1, by omega⟩
      have hm2 : a0.size - (j + 1) = m := by omega
      have hc' := hc () trivial
      rw [hm2] at hc'
      rw [hm]
      unfold charsFrom
      simp only [spec_IsLabel_L0, lt_nat, inRange_nat, decide_eq_true hj, cond_true, wrap_succ (j := j) (by unfold big; omega), hc']
      generalize bt a0 (j : Int) = b
      exact char_spec k b _
    · rw [Nat.sub_self]
      simp [spec_IsLabel_L0, charsFrom]
def OP_spec_IsLabel (f_spec_l1In : Int → Int → Int → Bool) : Orac := (orcX 68 [.val (.int .i64), .val (.int .i64), .val (.int .i64)] (fun d => true) (fun d => [⟨.bool, f_spec_l1In d.1 d.2.1 d.2.2.1⟩]) nilO)
def O_spec_IsLabel : Orac := OP_spec_IsLabel N.spec_l1In
def spec_IsLabel_P_L0 {ρ : Type} (f_spec_l1In : Int → Int → Int → Bool) (k : Bool → Option ρ) (L0 : ByteArray → Int → Option ρ) (v0_0 : ByteArray) (v0_1 : Int) : Option ρ := (cond (decide (v0_1 < (ByteArray.size v0_0 : Int))) (cond (inRange v0_1 (ByteArray.size v0_0)) (cond (decide ((bt v0_0 v0_1) < (97 : Int))) (cond (inRange v0_1 (ByteArray.size v0_0)) (cond (decide ((bt v0_0 v0_1) < (48 : Int))) (cond (inRange v0_1 (ByteArray.size v0_0)) (cond ((bt v0_0 v0_1) != (45 : Int)) (k false) (L0 v0_0 (IntKind.wrap .i64 (v0_1 + (1 : Int))))) none) (cond (inRange v0_1 (ByteArray.size v0_0)) (cond (decide ((bt v0_0 v0_1) > (57 : Int))) (cond (inRange v0_1 (ByteArray.size v0_0)) (cond ((bt v0_0 v0_1) != (45 : Int)) (k false) (L0 v0_0 (IntKind.wrap .i64 (v0_1 + (1 : Int))))) none) (L0 v0_0 (IntKind.wrap .i64 (v0_1 + (1 : Int))))) none)) none) (cond (inRange v0_1 (ByteArray.size v0_0)) (cond (decide ((bt v0_0 v0_1) > (122 : Int))) (cond (inRange v0_1 (ByteArray.size v0_0)) (cond (decide ((bt v0_0 v0_1) < (48 : Int))) (cond (inRange v0_1 (ByteArray.size v0_0)) (cond ((bt v0_0 v0_1) != (45 : Int)) (k false) (L0 v0_0 (IntKind.wrap .i64 (v0_1 + (1 : Int))))) none) (cond (inRange v0_1 (ByteArray.size v0_0)) (cond (decide ((bt v0_0 v0_1) > (57 : Int))) (cond (inRange v0_1 (ByteArray.size v0_0)) (cond ((bt v0_0 v0_1) != (45 : Int)) (k false) (L0 v0_0 (IntKind.wrap .i64 (v0_1 + (1 : Int))))) none) (L0 v0_0 (IntKind.wrap .i64 (v0_1 + (1 : Int))))) none)) none) (L0 v0_0 (IntKind.wrap .i64 (v0_1 + (1 : Int))))) none)) none) (k true))
def spec_IsLabel_P {ρ : Type} (f_spec_l1In : Int → Int → Int → Bool) (k : Bool → Option ρ) (L0 : ByteArray → Int → Option ρ) (a0 : ByteArray) : Option ρ := (cond (!(f_spec_l1In (ByteArray.size a0 : Int) (1 : Int) (8 : Int))) (k false) (cond (inRange (0 : Int) (ByteArray.size a0)) (cond ((bt a0 (0 : Int)) == (45 : Int)) (k false) (cond (inRange (IntKind.wrap .i64 ((ByteArray.size a0 : Int) - (1 : Int))) (ByteArray.size a0)) (cond ((bt a0 (IntKind.wrap .i64 ((ByteArray.size a0 : Int) - (1 : Int)))) == (45 : Int)) (k false) (L0 a0 (0 : Int))) none)) none))
theorem ok_spec_IsLabel : OracOk Try.prog sigs O_spec_IsLabel := (orcX_ok rfl (fun d g => said_spec_l1In d.1 d.2.1 d.2.2.1) nilO_ok)
def A_spec_IsLabel : Ann := fun b => cond (Nat.beq b 0) ⟨[(0, false), (3, false)], []⟩ (⟨[], []⟩)
def S_spec_IsLabel_0 (v0_0 : ByteArray) (v0_1 : Int) : St := [(kT 0, some (.tv (.v .str v0_0 .no))), (kT 3, some (.tv (.v (.int .i64) v0_1 .no)))]
noncomputable def L_P_spec_IsLabel_0 (f_spec_l1In : Int → Int → Int → Bool) (n m : Nat) : St → Option Ret := loopOf tab sigs (OP_spec_IsLabel f_spec_l1In) A_spec_IsLabel Try.f67 [(.bool, .no)] n (fun _ => 0) 0 m
noncomputable def L_spec_IsLabel_0 (n m : Nat) : St → Option Ret := L_P_spec_IsLabel_0 N.spec_l1In n m
theorem bP_spec_IsLabel_0 (f_spec_l1In : Int → Int → Int → Bool) (n m : Nat) (v0_0 : ByteArray) (v0_1 : Int) : L_P_spec_IsLabel_0 f_spec_l1In n (m + 1) (S_spec_IsLabel_0 v0_0 v0_1) = spec_IsLabel_P_L0 f_spec_l1In (fun r0 => some [⟨.bool, r0⟩]) (fun v0_0 v0_1 => L_P_spec_IsLabel_0 f_spec_l1In n m (S_spec_IsLabel_0 v0_0 v0_1)) v0_0 v0_1 := by kernel_rfl
theorem b_spec_IsLabel_0 (n m : Nat) (v0_0 : ByteArray) (v0_1 : Int) : L_spec_IsLabel_0 n (m + 1) (S_spec_IsLabel_0 v0_0 v0_1) = spec_IsLabel_L0 (fun r0 => some [⟨.bool, r0⟩]) (fun v0_0 v0_1 => L_spec_IsLabel_0 n m (S_spec_IsLabel_0 v0_0 v0_1)) v0_0 v0_1 := bP_spec_IsLabel_0 N.spec_l1In n m v0_0 v0_1
theorem aP_spec_IsLabel (f_spec_l1In : Int → Int → Int → Bool) (n : Nat) (a0 : ByteArray) : absF tab sigs (OP_spec_IsLabel f_spec_l1In) A_spec_IsLabel Try.f67 [(.bool, .no)] n [.val .str a0] = spec_IsLabel_P f_spec_l1In (fun r0 => some [⟨.bool, r0⟩]) (fun v0_0 v0_1 => L_P_spec_IsLabel_0 f_spec_l1In n n (S_spec_IsLabel_0 v0_0 v0_1)) a0 := by kernel_rfl
theorem a_spec_IsLabel (n : Nat) (a0 : ByteArray) : absF tab sigs O_spec_IsLabel A_spec_IsLabel Try.f67 [(.bool, .no)] n [.val .str a0] = spec_IsLabel (fun r0 => some [⟨.bool, r0⟩]) (fun v0_0 v0_1 => L_spec_IsLabel_0 n n (S_spec_IsLabel_0 v0_0 v0_1)) a0 := aP_spec_IsLabel N.spec_l1In n a0
theorem said_spec_IsLabel (a0 : ByteArray) (g : G.spec_IsLabel a0 = true) : Said Try.prog sigs_67 67 [.val .str a0] [⟨.bool, N.spec_IsLabel a0⟩] := said_len (T := tab) (A := A_spec_IsLabel) tabOk ok_spec_IsLabel tabOk.follows Try.func67 (by kernel_rfl) (by kernel_rfl) (fun hl => let ⟨n, hn⟩ := spec_IsLabel_ok (ρ := Ret) (fun r0 => some [⟨.bool, r0⟩]) a0 g; ⟨n, (a_spec_IsLabel n a0).trans (hn n (Nat.le_refl n) (fun  m v0_0 v0_1 => L_spec_IsLabel_0 n  m (S_spec_IsLabel_0 v0_0 v0_1)) (fun  m v0_0 v0_1 => b_spec_IsLabel_0 n  m v0_0 v0_1))⟩)
/-! spec.IsPath -/
abbrev G.spec_IsPath (p : List ByteArray) : Bool := decide (wP p ≤ 1048576)
abbrev N.spec_IsPath (p : List ByteArray) : Bool := isPath p
def spec_IsPath_L0 {ρ : Type} (k : Bool → Option ρ) (L0 : (List ByteArray) → Int → Option ρ) (v0_0 : (List ByteArray)) (v0_1 : Int) : Option ρ := (cond (decide (v0_1 < (List.length v0_0 : Int))) (cond (inRange v0_1 (List.length v0_0)) (cond (G.spec_IsLabel (List.getD v0_0 (Int.toNat v0_1) ByteArray.empty)) (cond (!(N.spec_IsLabel (List.getD v0_0 (Int.toNat v0_1) ByteArray.empty))) (k false) (L0 v0_0 (IntKind.wrap .i64 (v0_1 + (1 : Int))))) none) none) (k (N.spec_l1In (List.length v0_0 : Int) (1 : Int) (4 : Int))))
def spec_IsPath {ρ : Type} (k : Bool → Option ρ) (L0 : (List ByteArray) → Int → Option ρ) (a0 : (List ByteArray)) : Option ρ := (L0 a0 (0 : Int))
theorem spec_IsPath_ok {ρ : Type} (k : Bool → Option ρ) (a0 : (List ByteArray)) (l_a0 : lnL (fun _ => True) a0) (g : G.spec_IsPath a0 = true) : ∃ n0, ∀ n, n0 ≤ n → ∀ (L0 : Nat → (List ByteArray) → Int → Option ρ) (h0 : ∀ ( m : Nat) (v0_0 : (List ByteArray)) (v0_1 : Int), L0 (m + 1) v0_0 v0_1 = spec_IsPath_L0 k (L0 m) v0_0 v0_1), spec_IsPath k (L0 n) a0 = k (N.spec_IsPath a0) := by
  unfold G.spec_IsPath at g
  have hw : wP a0 ≤ 1048576 := of_decide_eq_true g
  have hl : a0.length ≤ 1048576 := by unfold wP at hw; omega
  refine ⟨a0.length + 1, fun n hn L0 h0 => ?_⟩
  refine (raw_all (a := a0) ByteArray.empty isLabel (σ := Unit) (s := ()) (r := k false) (e := fun _ => k (inR (a0.length : Int) 1 4)) (L := fun m i _ => L0 m a0 i) (R := fun i _ c => spec_IsPath_L0 k (fun _ i => c i ()) a0 i) (fun m i s => h0 m a0 i) (fun j s c hj => ?_) (fun s c => ?_) hn).trans ?_
  · have hm := wP_mem (getD_mem (d := ByteArray.empty) hj)
    have g2 : decide ((a0.getD j ByteArray.empty).size ≤ 1048576) = true := by simp only [decide_eq_true_eq]; omega
    simp only [spec_IsPath_L0, lt_nat, inRange_nat, decide_eq_true hj, cond_true, Int.toNat_natCast, G.spec_IsLabel, N.spec_IsLabel, g2, wrap_succ (j := j) (by unfold big; omega)]
    cases isLabel (a0.getD j ByteArray.empty) <;> rfl
  · simp [spec_IsPath_L0]
  · show _ = k (inR (a0.length : Int) 1 4 && a0.all isLabel)
    cases a0.all isLabel <;> cases inR (a0.length : Int) 1 4 <;> rfl
def OP_spec_IsPath (f_spec_IsLabel : ByteArray → Bool) (g_spec_IsLabel : ByteArray → Bool) (f_spec_l1In : Int → Int → Int → Bool) : Orac := (orcX 68 [.val (.int .i64), .val (.int .i64), .val (.int .i64)] (fun d => true) (fun d => [⟨.bool, f_spec_l1In d.1 d.2.1 d.2.2.1⟩]) (orcX 67 [.val .str] (fun d => g_spec_IsLabel d.1) (fun d => [⟨.bool, f_spec_IsLabel d.1⟩]) nilO))
def O_spec_IsPath : Orac := OP_spec_IsPath N.spec_IsLabel G.spec_IsLabel N.spec_l1In
def spec_IsPath_P_L0 {ρ : Type} (f_spec_IsLabel : ByteArray → Bool) (g_spec_IsLabel : ByteArray → Bool) (f_spec_l1In : Int → Int → Int → Bool) (k : Bool → Option ρ) (L0 : (List ByteArray) → Int → Option ρ) (v0_0 : (List ByteArray)) (v0_1 : Int) : Option ρ := (cond (decide (v0_1 < (List.length v0_0 : Int))) (cond (inRange v0_1 (List.length v0_0)) (cond (g_spec_IsLabel (List.getD v0_0 (Int.toNat v0_1) ByteArray.empty)) (cond (!(f_spec_IsLabel (List.getD v0_0 (Int.toNat v0_1) ByteArray.empty))) (k false) (L0 v0_0 (IntKind.wrap .i64 (v0_1 + (1 : Int))))) none) none) (k (f_spec_l1In (List.length v0_0 : Int) (1 : Int) (4 : Int))))
def spec_IsPath_P {ρ : Type} (f_spec_IsLabel : ByteArray → Bool) (g_spec_IsLabel : ByteArray → Bool) (f_spec_l1In : Int → Int → Int → Bool) (k : Bool → Option ρ) (L0 : (List ByteArray) → Int → Option ρ) (a0 : (List ByteArray)) : Option ρ := (L0 a0 (0 : Int))
theorem ok_spec_IsPath : OracOk Try.prog sigs O_spec_IsPath := (orcX_ok rfl (fun d g => said_spec_l1In d.1 d.2.1 d.2.2.1) (orcX_ok rfl (fun d g => said_spec_IsLabel d.1 g) nilO_ok))
def A_spec_IsPath : Ann := fun b => cond (Nat.beq b 0) ⟨[(0, false), (3, false)], []⟩ (⟨[], []⟩)
def S_spec_IsPath_0 (v0_0 : (List ByteArray)) (v0_1 : Int) : St := [(kT 0, some (.tv (.v (.slice 9 .str) v0_0 .no))), (kT 3, some (.tv (.v (.int .i64) v0_1 .no)))]
noncomputable def L_P_spec_IsPath_0 (f_spec_IsLabel : ByteArray → Bool) (g_spec_IsLabel : ByteArray → Bool) (f_spec_l1In : Int → Int → Int → Bool) (n m : Nat) : St → Option Ret := loopOf tab sigs (OP_spec_IsPath f_spec_IsLabel g_spec_IsLabel f_spec_l1In) A_spec_IsPath Try.f88 [(.bool, .no)] n (fun _ => 0) 0 m
noncomputable def L_spec_IsPath_0 (n m : Nat) : St → Option Ret := L_P_spec_IsPath_0 N.spec_IsLabel G.spec_IsLabel N.spec_l1In n m
theorem bP_spec_IsPath_0 (f_spec_IsLabel : ByteArray → Bool) (g_spec_IsLabel : ByteArray → Bool) (f_spec_l1In : Int → Int → Int → Bool) (n m : Nat) (v0_0 : (List ByteArray)) (v0_1 : Int) : L_P_spec_IsPath_0 f_spec_IsLabel g_spec_IsLabel f_spec_l1In n (m + 1) (S_spec_IsPath_0 v0_0 v0_1) = spec_IsPath_P_L0 f_spec_IsLabel g_spec_IsLabel f_spec_l1In (fun r0 => some [⟨.bool, r0⟩]) (fun v0_0 v0_1 => L_P_spec_IsPath_0 f_spec_IsLabel g_spec_IsLabel f_spec_l1In n m (S_spec_IsPath_0 v0_0 v0_1)) v0_0 v0_1 := by kernel_rfl
theorem b_spec_IsPath_0 (n m : Nat) (v0_0 : (List ByteArray)) (v0_1 : Int) : L_spec_IsPath_0 n (m + 1) (S_spec_IsPath_0 v0_0 v0_1) = spec_IsPath_L0 (fun r0 => some [⟨.bool, r0⟩]) (fun v0_0 v0_1 => L_spec_IsPath_0 n m (S_spec_IsPath_0 v0_0 v0_1)) v0_0 v0_1 := bP_spec_IsPath_0 N.spec_IsLabel G.spec_IsLabel N.spec_l1In n m v0_0 v0_1
theorem aP_spec_IsPath (f_spec_IsLabel : ByteArray → Bool) (g_spec_IsLabel : ByteArray → Bool) (f_spec_l1In : Int → Int → Int → Bool) (n : Nat) (a0 : (List ByteArray)) : absF tab sigs (OP_spec_IsPath f_spec_IsLabel g_spec_IsLabel f_spec_l1In) A_spec_IsPath Try.f88 [(.bool, .no)] n [.val (.slice 9 .str) a0] = spec_IsPath_P f_spec_IsLabel g_spec_IsLabel f_spec_l1In (fun r0 => some [⟨.bool, r0⟩]) (fun v0_0 v0_1 => L_P_spec_IsPath_0 f_spec_IsLabel g_spec_IsLabel f_spec_l1In n n (S_spec_IsPath_0 v0_0 v0_1)) a0 := by kernel_rfl
theorem a_spec_IsPath (n : Nat) (a0 : (List ByteArray)) : absF tab sigs O_spec_IsPath A_spec_IsPath Try.f88 [(.bool, .no)] n [.val (.slice 9 .str) a0] = spec_IsPath (fun r0 => some [⟨.bool, r0⟩]) (fun v0_0 v0_1 => L_spec_IsPath_0 n n (S_spec_IsPath_0 v0_0 v0_1)) a0 := aP_spec_IsPath N.spec_IsLabel G.spec_IsLabel N.spec_l1In n a0
theorem said_spec_IsPath (a0 : (List ByteArray)) (g : G.spec_IsPath a0 = true) : Said Try.prog sigs_88 88 [.val (.slice 9 .str) a0] [⟨.bool, N.spec_IsPath a0⟩] := said_len (T := tab) (A := A_spec_IsPath) tabOk ok_spec_IsPath tabOk.follows Try.func88 (by kernel_rfl) (by kernel_rfl) (fun hl => let ⟨n, hn⟩ := spec_IsPath_ok (ρ := Ret) (fun r0 => some [⟨.bool, r0⟩]) a0 hl.1 g; ⟨n, (a_spec_IsPath n a0).trans (hn n (Nat.le_refl n) (fun  m v0_0 v0_1 => L_spec_IsPath_0 n  m (S_spec_IsPath_0 v0_0 v0_1)) (fun  m v0_0 v0_1 => b_spec_IsPath_0 n  m v0_0 v0_1))⟩)
/-! spec.IsEntry -/
abbrev G.spec_IsEntry (e : TEntry) : Bool := decide (wE e ≤ 1048576)
abbrev N.spec_IsEntry (e : TEntry) : Bool := isEntry e
def spec_IsEntry {ρ : Type} (k : Bool → Option ρ) (a0 : TEntry) : Option ρ := (cond (a0.2.1 == (1 : Int)) (cond (G.spec_IsLabel a0.1) (cond (N.spec_IsLabel a0.1) (cond (N.spec_l1In a0.2.2.1 (0 : Int) (999999 : Int)) (k ((List.length a0.2.2.2 : Int) == (0 : Int))) (k false)) (k false)) none) (cond (a0.2.1 == (2 : Int)) (cond (G.spec_IsLabel a0.1) (cond (N.spec_IsLabel a0.1) (cond (N.spec_l1In a0.2.2.1 (0 : Int) (2147483646 : Int)) (k ((List.length a0.2.2.2 : Int) == (0 : Int))) (k false)) (k false)) none) (cond (a0.2.1 == (3 : Int)) (cond (G.spec_IsLabel a0.1) (cond (N.spec_IsLabel a0.1) (cond (N.spec_l1In a0.2.2.1 (0 : Int) (2147483646 : Int)) (cond (G.spec_IsPath a0.2.2.2) (k (N.spec_IsPath a0.2.2.2)) none) (k false)) (k false)) none) (k false))))
theorem spec_IsEntry_ok {ρ : Type} (k : Bool → Option ρ) (a0 : TEntry) (l_a0 : (True ∧ (True ∧ (True ∧ lnL (fun _ => True) a0.2.2.2)))) (g : G.spec_IsEntry a0 = true) : spec_IsEntry k  a0 = k (N.spec_IsEntry a0) := by
  unfold G.spec_IsEntry at g
  have hw : wE a0 ≤ 1048576 := of_decide_eq_true g
  have g1 : decide (a0.1.size ≤ 1048576) = true := by unfold wE at hw; simp; omega
  have g2 : decide (wP a0.2.2.2 ≤ 1048576) = true := by unfold wE at hw; simp; omega
  simp only [spec_IsEntry, G.spec_IsLabel, N.spec_IsLabel, G.spec_IsPath, N.spec_IsPath, N.spec_l1In, g1, g2, cond_true, isEntry, isDigest]
  by_cases h1 : a0.2.1 = 1
  · have e1 : (a0.2.1 == 1) = true := by simp [h1]
    have e2 : (a0.2.1 == 2) = false := by simp [h1]
    have e3 : (a0.2.1 == 3) = false := by simp [h1]
    simp only [e1, e2, e3]
    cases isLabel a0.1 <;> cases inR a0.2.2.1 0 999999 <;> simp
  by_cases h2 : a0.2.1 = 2
  · have e1 : (a0.2.1 == 1) = false := by simp [h2]
    have e2 : (a0.2.1 == 2) = true := by simp [h2]
    have e3 : (a0.2.1 == 3) = false := by simp [h2]
    simp only [e1, e2, e3]
    cases isLabel a0.1 <;> cases inR a0.2.2.1 0 2147483646 <;> simp
  have e1 : (a0.2.1 == 1) = false := by simp [h1]
  have e2 : (a0.2.1 == 2) = false := by simp [h2]
  simp only [e1, e2]
  cases a0.2.1 == 3 <;> cases isLabel a0.1 <;> cases inR a0.2.2.1 0 2147483646 <;> simp
def OP_spec_IsEntry (f_spec_IsLabel : ByteArray → Bool) (g_spec_IsLabel : ByteArray → Bool) (f_spec_l1In : Int → Int → Int → Bool) (f_spec_IsPath : (List ByteArray) → Bool) (g_spec_IsPath : (List ByteArray) → Bool) : Orac := (orcX 88 [.val (.slice 9 .str)] (fun d => g_spec_IsPath d.1) (fun d => [⟨.bool, f_spec_IsPath d.1⟩]) (orcX 68 [.val (.int .i64), .val (.int .i64), .val (.int .i64)] (fun d => true) (fun d => [⟨.bool, f_spec_l1In d.1 d.2.1 d.2.2.1⟩]) (orcX 67 [.val .str] (fun d => g_spec_IsLabel d.1) (fun d => [⟨.bool, f_spec_IsLabel d.1⟩]) nilO)))
def O_spec_IsEntry : Orac := OP_spec_IsEntry N.spec_IsLabel G.spec_IsLabel N.spec_l1In N.spec_IsPath G.spec_IsPath
def spec_IsEntry_P {ρ : Type} (f_spec_IsLabel : ByteArray → Bool) (g_spec_IsLabel : ByteArray → Bool) (f_spec_l1In : Int → Int → Int → Bool) (f_spec_IsPath : (List ByteArray) → Bool) (g_spec_IsPath : (List ByteArray) → Bool) (k : Bool → Option ρ) (a0 : TEntry) : Option ρ := (cond (a0.2.1 == (1 : Int)) (cond (g_spec_IsLabel a0.1) (cond (f_spec_IsLabel a0.1) (cond (f_spec_l1In a0.2.2.1 (0 : Int) (999999 : Int)) (k ((List.length a0.2.2.2 : Int) == (0 : Int))) (k false)) (k false)) none) (cond (a0.2.1 == (2 : Int)) (cond (g_spec_IsLabel a0.1) (cond (f_spec_IsLabel a0.1) (cond (f_spec_l1In a0.2.2.1 (0 : Int) (2147483646 : Int)) (k ((List.length a0.2.2.2 : Int) == (0 : Int))) (k false)) (k false)) none) (cond (a0.2.1 == (3 : Int)) (cond (g_spec_IsLabel a0.1) (cond (f_spec_IsLabel a0.1) (cond (f_spec_l1In a0.2.2.1 (0 : Int) (2147483646 : Int)) (cond (g_spec_IsPath a0.2.2.2) (k (f_spec_IsPath a0.2.2.2)) none) (k false)) (k false)) none) (k false))))
theorem ok_spec_IsEntry : OracOk Try.prog sigs O_spec_IsEntry := (orcX_ok rfl (fun d g => said_spec_IsPath d.1 g) (orcX_ok rfl (fun d g => said_spec_l1In d.1 d.2.1 d.2.2.1) (orcX_ok rfl (fun d g => said_spec_IsLabel d.1 g) nilO_ok)))
def A_spec_IsEntry : Ann := fun b => ⟨[], []⟩
theorem aP_spec_IsEntry (f_spec_IsLabel : ByteArray → Bool) (g_spec_IsLabel : ByteArray → Bool) (f_spec_l1In : Int → Int → Int → Bool) (f_spec_IsPath : (List ByteArray) → Bool) (g_spec_IsPath : (List ByteArray) → Bool) (n : Nat) (a0 : TEntry) : absF tab sigs (OP_spec_IsEntry f_spec_IsLabel g_spec_IsLabel f_spec_l1In f_spec_IsPath g_spec_IsPath) A_spec_IsEntry Try.f43 [(.bool, .no)] n [.val (.pair .str (.pair (.int .i64) (.pair (.int .i64) (.slice 9 .str)))) a0] = spec_IsEntry_P f_spec_IsLabel g_spec_IsLabel f_spec_l1In f_spec_IsPath g_spec_IsPath (fun r0 => some [⟨.bool, r0⟩])  a0 := by kernel_rfl
theorem a_spec_IsEntry (n : Nat) (a0 : TEntry) : absF tab sigs O_spec_IsEntry A_spec_IsEntry Try.f43 [(.bool, .no)] n [.val (.pair .str (.pair (.int .i64) (.pair (.int .i64) (.slice 9 .str)))) a0] = spec_IsEntry (fun r0 => some [⟨.bool, r0⟩])  a0 := aP_spec_IsEntry N.spec_IsLabel G.spec_IsLabel N.spec_l1In N.spec_IsPath G.spec_IsPath n a0
theorem said_spec_IsEntry (a0 : TEntry) (g : G.spec_IsEntry a0 = true) : Said Try.prog sigs_43 43 [.val (.pair .str (.pair (.int .i64) (.pair (.int .i64) (.slice 9 .str)))) a0] [⟨.bool, N.spec_IsEntry a0⟩] := said_len (T := tab) (A := A_spec_IsEntry) tabOk ok_spec_IsEntry tabOk.follows Try.func43 (by kernel_rfl) (by kernel_rfl) (fun hl => ⟨0, (a_spec_IsEntry 0 a0).trans (spec_IsEntry_ok (ρ := Ret) (fun r0 => some [⟨.bool, r0⟩]) a0 hl.1 g)⟩)
end Go.Proofs.Ythegggkfngnehaa.Ref
