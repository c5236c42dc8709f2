/- Functions of the program: what each computes, and that it does so.
   Conditions: as each theorem states. -/
import Derived.Test.YtkiohdkbaliikaaSA
set_option linter.unusedVariables false
set_option linter.unusedSimpArgs false
set_option maxRecDepth 100000
namespace Go.Proofs.Ytkiohdkbaliikaa.Ref
open Go.RowKit Go.Proofs.YtkiohdkbaliikaaW.PrintWords Go.Proofs.YtkiohdkbaliikaaW.PrintLast
/-! laws.szStringS -/
abbrev G.laws_szStringS (a : List ByteArray) (left : Int) : Bool := gL left && bP a
abbrev N.laws_szStringS (a : List ByteArray) (left : Int) : Int := sub1 (wP a) left
def laws_szStringS_L0 {ρ : Type} (k : Int → Option ρ) (L0 : (List ByteArray) → Int → Int → Option ρ) (v0_0 : (List ByteArray)) (v0_1 : Int) (v0_2 : Int) : Option ρ := (cond (decide (v0_2 < (List.length v0_0 : Int))) (cond (inRange v0_2 (List.length v0_0)) (cond (decide ((IntKind.wrap .i64 (v0_1 - (ByteArray.size (List.getD v0_0 (Int.toNat v0_2) ByteArray.empty) : Int))) < (0 : Int))) (k (-1 : Int)) (L0 v0_0 (IntKind.wrap .i64 (v0_1 - (ByteArray.size (List.getD v0_0 (Int.toNat v0_2) ByteArray.empty) : Int))) (IntKind.wrap .i64 (v0_2 + (1 : Int))))) none) (k v0_1))
def laws_szStringS {ρ : Type} (k : Int → Option ρ) (L0 : (List ByteArray) → Int → Int → Option ρ) (a0 : (List ByteArray)) (a1 : Int) : Option ρ := (cond (decide ((IntKind.wrap .i64 (a1 - (List.length a0 : Int))) < (0 : Int))) (k (-1 : Int)) (L0 a0 (IntKind.wrap .i64 (a1 - (List.length a0 : Int))) (0 : Int)))
theorem laws_szStringS_ok {ρ : Type} (k : Int → Option ρ) (a0 : (List ByteArray)) (a1 : Int) (l_a0 : lnL (fun _ => True) a0) (g : G.laws_szStringS a0 a1 = true) : ∃ n0, ∀ n, n0 ≤ n → ∀ (L0 : Nat → (List ByteArray) → Int → Int → Option ρ) (h0 : ∀ ( m : Nat) (v0_0 : (List ByteArray)) (v0_1 : Int) (v0_2 : Int), L0 (m + 1) v0_0 v0_1 v0_2 = laws_szStringS_L0 k (L0 m) v0_0 v0_1 v0_2), laws_szStringS k (L0 n) a0 a1 = k (N.laws_szStringS a0 a1) := by
  unfold G.laws_szStringS at g
  replace g := (Bool.and_eq_true _ _).mp g
  refine ⟨a0.length + 1, fun n hn L0 h0 => ?_⟩
  refine sz_first (c := fun l => L0 n a0 l 0) g.1 l_a0.1 (fun g' => ?_)
  have g'' : 0 ≤ sub1 a0.length a1 ∧ sub1 a0.length a1 ≤ 1048576 := by simpa only [gL, Bool.and_eq_true, decide_eq_true_eq] using g'
  refine (loop_l (a := a0) (d := ByteArray.empty) l_a0.1 (L := fun m i s => L0 m a0 s i) (f := fun i x s c => cond (decide (IntKind.wrap .i64 (s - (x.size : Int)) < 0)) (k (-1)) (c (IntKind.wrap .i64 (s - (x.size : Int))))) (e := k) (fun m i s => h0 m a0 s i) hn).trans ?_
  refine foldI_sz (fun x => x.size ≤ 9223372036854775807) (fun i x s c hx hs0 hs1 => ?_) (fun s => rfl) a0 0 _ (fun x hx => by simpa using List.all_eq_true.1 g.2 x hx) g''.1 g''.2
  rw [wrap_sub hs0 hs1 (by omega) (by omega)]
  congr 1
  simp only [decide_eq_decide]
  omega
def O_laws_szStringS : Orac := nilO
theorem ok_laws_szStringS : OracOk Try.prog sigs O_laws_szStringS := nilO_ok
def A_laws_szStringS : Ann := fun b => cond (Nat.beq b 0) ⟨[(0, false), (1, false), (5, false)], []⟩ (⟨[], []⟩)
def S_laws_szStringS_0 (v0_0 : (List ByteArray)) (v0_1 : Int) (v0_2 : Int) : St := [(kT 0, some (.tv (.v (.slice 9 .str) v0_0 .no))), (kT 1, some (.tv (.v (.int .i64) v0_1 .no))), (kT 5, some (.tv (.v (.int .i64) v0_2 .no)))]
noncomputable def L_laws_szStringS_0 (n m : Nat) : St → Option Ret := loopOf tab sigs O_laws_szStringS A_laws_szStringS Try.f14 [((.int .i64), .no)] n (fun _ => 0) 0 m
theorem b_laws_szStringS_0 (n m : Nat) (v0_0 : (List ByteArray)) (v0_1 : Int) (v0_2 : Int) : L_laws_szStringS_0 n (m + 1) (S_laws_szStringS_0 v0_0 v0_1 v0_2) = laws_szStringS_L0 (fun r0 => some [⟨(.int .i64), r0⟩]) (fun v0_0 v0_1 v0_2 => L_laws_szStringS_0 n m (S_laws_szStringS_0 v0_0 v0_1 v0_2)) v0_0 v0_1 v0_2 := by kernel_rfl
theorem a_laws_szStringS (n : Nat) (a0 : (List ByteArray)) (a1 : Int) : absF tab sigs O_laws_szStringS A_laws_szStringS Try.f14 [((.int .i64), .no)] n [.val (.slice 9 .str) a0, .val (.int .i64) a1] = laws_szStringS (fun r0 => some [⟨(.int .i64), r0⟩]) (fun v0_0 v0_1 v0_2 => L_laws_szStringS_0 n n (S_laws_szStringS_0 v0_0 v0_1 v0_2)) a0 a1 := by kernel_rfl
theorem said_laws_szStringS (a0 : (List ByteArray)) (a1 : Int) (g : G.laws_szStringS a0 a1 = true) : Said Try.prog sigs_14 14 [.val (.slice 9 .str) a0, .val (.int .i64) a1] [⟨(.int .i64), N.laws_szStringS a0 a1⟩] := said_len (T := tab) (A := A_laws_szStringS) tabOk ok_laws_szStringS tabOk.follows Try.func14 (by kernel_rfl) (by kernel_rfl) (fun hl => let ⟨n, hn⟩ := laws_szStringS_ok (ρ := Ret) (fun r0 => some [⟨(.int .i64), r0⟩]) a0 a1 hl.1 g; ⟨n, (a_laws_szStringS n a0 a1).trans (hn n (Nat.le_refl n) (fun  m v0_0 v0_1 v0_2 => L_laws_szStringS_0 n  m (S_laws_szStringS_0 v0_0 v0_1 v0_2)) (fun  m v0_0 v0_1 v0_2 => b_laws_szStringS_0 n  m v0_0 v0_1 v0_2))⟩)
/-! laws.toStringS -/
abbrev G.laws_toStringS (a : List ByteArray) : Bool := decide (a.length ≤ 1048576)
abbrev N.laws_toStringS (a : List ByteArray) : List ByteArray := a
def laws_toStringS_L0 {ρ : Type} (k : (List ByteArray) → Option ρ) (L0 : (List ByteArray) → Int → (List ByteArray) → Option ρ) (v0_0 : (List ByteArray)) (v0_1 : Int) (v0_2 : (List ByteArray)) : Option ρ := (cond (decide (v0_1 < (List.length v0_0 : Int))) (cond (inRange v0_1 (List.length v0_0)) (cond (inRange v0_1 (List.length v0_2)) (cond (inRange v0_1 (List.length v0_2)) (L0 v0_0 (IntKind.wrap .i64 (v0_1 + (1 : Int))) (List.set v0_2 (Int.toNat v0_1) (List.getD v0_0 (Int.toNat v0_1) ByteArray.empty))) none) none) none) (k v0_2))
def laws_toStringS {ρ : Type} (k : (List ByteArray) → Option ρ) (L0 : (List ByteArray) → Int → (List ByteArray) → Option ρ) (a0 : (List ByteArray)) : Option ρ := (cond (decide (0 ≤ (List.length a0 : Int)) && decide ((List.length a0 : Int) ≤ 549755813888)) (L0 a0 (0 : Int) (List.replicate (Int.toNat (List.length a0 : Int)) ByteArray.empty)) none)
theorem laws_toStringS_ok {ρ : Type} (k : (List ByteArray) → Option ρ) (a0 : (List ByteArray)) (l_a0 : lnL (fun _ => True) a0) (g : G.laws_toStringS a0 = true) : ∃ n0, ∀ n, n0 ≤ n → ∀ (L0 : Nat → (List ByteArray) → Int → (List ByteArray) → Option ρ) (h0 : ∀ ( m : Nat) (v0_0 : (List ByteArray)) (v0_1 : Int) (v0_2 : (List ByteArray)), L0 (m + 1) v0_0 v0_1 v0_2 = laws_toStringS_L0 k (L0 m) v0_0 v0_1 v0_2), laws_toStringS k (L0 n) a0 = k (N.laws_toStringS a0) := by
  unfold G.laws_toStringS at g
  refine ⟨a0.length + 1, fun n hn L0 h0 => ?_⟩
  have g' : a0.length ≤ 1048576 := by simpa using g
  have hg : (decide (0 ≤ (a0.length : Int)) && decide ((a0.length : Int) ≤ 549755813888)) = true := by simp; omega
  show cond _ _ none = _
  rw [hg]
  refine (raw_copy (a := a0) ByteArray.empty ByteArray.empty (fun x => x) (k := k) (L := fun m i out => L0 m a0 i out) (R := fun i out c => laws_toStringS_L0 k (fun _ i out => c i out) a0 i out) (fun m i s => h0 m a0 i s) (fun j out c hj hl => ?_) (fun s c => ?_) hn).trans (by simp)
  · simp [laws_toStringS_L0, lt_nat, inRange_nat, hj, hl, wrap_succ (j := j) (by unfold big; omega)]
  · simp [laws_toStringS_L0]
def O_laws_toStringS : Orac := nilO
theorem ok_laws_toStringS : OracOk Try.prog sigs O_laws_toStringS := nilO_ok
def A_laws_toStringS : Ann := fun b => cond (Nat.beq b 0) ⟨[(0, false), (3, true), (4, false)], []⟩ (⟨[], []⟩)
def S_laws_toStringS_0 (v0_0 : (List ByteArray)) (v0_1 : Int) (v0_2 : (List ByteArray)) : St := [(kT 0, some (.tv (.v (.slice 9 .str) v0_0 .no))), (kT 3, some (.tv (.v (.slice 9 .str) [] (.own 24)))), (kT 4, some (.tv (.v (.int .i64) v0_1 .no))), (kR 24, some (.row 9 .str v0_2))]
noncomputable def L_laws_toStringS_0 (n m : Nat) : St → Option Ret := loopOf tab sigs O_laws_toStringS A_laws_toStringS Try.f16 [((.slice 9 .str), (.own 0))] n (fun _ => 0) 0 m
theorem b_laws_toStringS_0 (n m : Nat) (v0_0 : (List ByteArray)) (v0_1 : Int) (v0_2 : (List ByteArray)) : L_laws_toStringS_0 n (m + 1) (S_laws_toStringS_0 v0_0 v0_1 v0_2) = laws_toStringS_L0 (fun r0 => some [⟨(.slice 9 .str), r0⟩]) (fun v0_0 v0_1 v0_2 => L_laws_toStringS_0 n m (S_laws_toStringS_0 v0_0 v0_1 v0_2)) v0_0 v0_1 v0_2 := by kernel_rfl
theorem a_laws_toStringS (n : Nat) (a0 : (List ByteArray)) : absF tab sigs O_laws_toStringS A_laws_toStringS Try.f16 [((.slice 9 .str), (.own 0))] n [.val (.slice 9 .str) a0] = laws_toStringS (fun r0 => some [⟨(.slice 9 .str), r0⟩]) (fun v0_0 v0_1 v0_2 => L_laws_toStringS_0 n n (S_laws_toStringS_0 v0_0 v0_1 v0_2)) a0 := by kernel_rfl
theorem said_laws_toStringS (a0 : (List ByteArray)) (g : G.laws_toStringS a0 = true) : Said Try.prog sigs_16 16 [.val (.slice 9 .str) a0] [⟨(.slice 9 .str), N.laws_toStringS a0⟩] := said_len (T := tab) (A := A_laws_toStringS) tabOk ok_laws_toStringS tabOk.follows Try.func16 (by kernel_rfl) (by kernel_rfl) (fun hl => let ⟨n, hn⟩ := laws_toStringS_ok (ρ := Ret) (fun r0 => some [⟨(.slice 9 .str), r0⟩]) a0 hl.1 g; ⟨n, (a_laws_toStringS n a0).trans (hn n (Nat.le_refl n) (fun  m v0_0 v0_1 v0_2 => L_laws_toStringS_0 n  m (S_laws_toStringS_0 v0_0 v0_1 v0_2)) (fun  m v0_0 v0_1 v0_2 => b_laws_toStringS_0 n  m v0_0 v0_1 v0_2))⟩)
/-! spec.l5Copy -/
abbrev G.spec_l5Copy (a : List ByteArray) : Bool := decide (a.length ≤ 1048576)
abbrev N.spec_l5Copy (a : List ByteArray) : List ByteArray := a
def spec_l5Copy {ρ : Type} (k : (List ByteArray) → Option ρ) (a0 : (List ByteArray)) : Option ρ := (cond (fit (List.length ([] : (List ByteArray))) (List.length a0)) (k (List.append ([] : (List ByteArray)) a0)) none)
theorem spec_l5Copy_ok {ρ : Type} (k : (List ByteArray) → Option ρ) (a0 : (List ByteArray)) (l_a0 : lnL (fun _ => True) a0) (g : G.spec_l5Copy a0 = true) : spec_l5Copy k  a0 = k (N.spec_l5Copy a0) := by
  unfold G.spec_l5Copy at g
  have h1 : fit (List.length ([] : List ByteArray)) (List.length a0) = true := fit_of (by have := of_decide_eq_true g; simp; omega)
  unfold spec_l5Copy
  rw [h1]
  rfl
def O_spec_l5Copy : Orac := nilO
theorem ok_spec_l5Copy : OracOk Try.prog sigs O_spec_l5Copy := nilO_ok
def A_spec_l5Copy : Ann := fun b => ⟨[], []⟩
theorem a_spec_l5Copy (n : Nat) (a0 : (List ByteArray)) : absF tab sigs O_spec_l5Copy A_spec_l5Copy Try.f37 [((.slice 9 .str), (.own 0))] n [.val (.slice 9 .str) a0] = spec_l5Copy (fun r0 => some [⟨(.slice 9 .str), r0⟩])  a0 := by kernel_rfl
theorem said_spec_l5Copy (a0 : (List ByteArray)) (g : G.spec_l5Copy a0 = true) : Said Try.prog sigs_37 37 [.val (.slice 9 .str) a0] [⟨(.slice 9 .str), N.spec_l5Copy a0⟩] := said_len (T := tab) (A := A_spec_l5Copy) tabOk ok_spec_l5Copy tabOk.follows Try.func37 (by kernel_rfl) (by kernel_rfl) (fun hl => ⟨0, (a_spec_l5Copy 0 a0).trans (spec_l5Copy_ok (ρ := Ret) (fun r0 => some [⟨(.slice 9 .str), r0⟩]) a0 hl.1 g)⟩)
/-! spec.MovedEntry -/
abbrev G.spec_MovedEntry (s : ByteArray) (i : Int) (p : List ByteArray) : Bool := decide (p.length ≤ 1048576)
abbrev N.spec_MovedEntry (s : ByteArray) (i : Int) (p : List ByteArray) : TEntry := (s, (3, (i, p)))
def spec_MovedEntry {ρ : Type} (k : TEntry → Option ρ) (a0 : ByteArray) (a1 : Int) (a2 : (List ByteArray)) : Option ρ := (cond (G.spec_l5Copy a2) (k (a0, ((3 : Int), (a1, (N.spec_l5Copy a2))))) none)
theorem spec_MovedEntry_ok {ρ : Type} (k : TEntry → Option ρ) (a0 : ByteArray) (a1 : Int) (a2 : (List ByteArray)) (l_a2 : lnL (fun _ => True) a2) (g : G.spec_MovedEntry a0 a1 a2 = true) : spec_MovedEntry k  a0 a1 a2 = k (N.spec_MovedEntry a0 a1 a2) := by
  unfold G.spec_MovedEntry at g
  show cond (decide (a2.length ≤ 1048576)) _ none = _
  rw [g]
  rfl
def OP_spec_MovedEntry (f_spec_l5Copy : (List ByteArray) → (List ByteArray)) (g_spec_l5Copy : (List ByteArray) → Bool) : Orac := (orcX 37 [.val (.slice 9 .str)] (fun d => g_spec_l5Copy d.1) (fun d => [⟨(.slice 9 .str), f_spec_l5Copy d.1⟩]) nilO)
def O_spec_MovedEntry : Orac := OP_spec_MovedEntry N.spec_l5Copy G.spec_l5Copy
def spec_MovedEntry_P {ρ : Type} (f_spec_l5Copy : (List ByteArray) → (List ByteArray)) (g_spec_l5Copy : (List ByteArray) → Bool) (k : TEntry → Option ρ) (a0 : ByteArray) (a1 : Int) (a2 : (List ByteArray)) : Option ρ := (cond (g_spec_l5Copy a2) (k (a0, ((3 : Int), (a1, (f_spec_l5Copy a2))))) none)
theorem ok_spec_MovedEntry : OracOk Try.prog sigs O_spec_MovedEntry := (orcX_ok rfl rfl (fun d g => said_spec_l5Copy d.1 g) nilO_ok)
def A_spec_MovedEntry : Ann := fun b => ⟨[], []⟩
theorem aP_spec_MovedEntry (f_spec_l5Copy : (List ByteArray) → (List ByteArray)) (g_spec_l5Copy : (List ByteArray) → Bool) (n : Nat) (a0 : ByteArray) (a1 : Int) (a2 : (List ByteArray)) : absF tab sigs (OP_spec_MovedEntry f_spec_l5Copy g_spec_l5Copy) A_spec_MovedEntry Try.f15 [((.pair .str (.pair (.int .i64) (.pair (.int .i64) (.slice 9 .str)))), (.pair .no (.pair .no (.pair .no (.own 0)))))] n [.val .str a0, .val (.int .i64) a1, .val (.slice 9 .str) a2] = spec_MovedEntry_P f_spec_l5Copy g_spec_l5Copy (fun r0 => some [⟨(.pair .str (.pair (.int .i64) (.pair (.int .i64) (.slice 9 .str)))), r0⟩])  a0 a1 a2 := by kernel_rfl
theorem a_spec_MovedEntry (n : Nat) (a0 : ByteArray) (a1 : Int) (a2 : (List ByteArray)) : absF tab sigs O_spec_MovedEntry A_spec_MovedEntry Try.f15 [((.pair .str (.pair (.int .i64) (.pair (.int .i64) (.slice 9 .str)))), (.pair .no (.pair .no (.pair .no (.own 0)))))] n [.val .str a0, .val (.int .i64) a1, .val (.slice 9 .str) a2] = spec_MovedEntry (fun r0 => some [⟨(.pair .str (.pair (.int .i64) (.pair (.int .i64) (.slice 9 .str)))), r0⟩])  a0 a1 a2 := aP_spec_MovedEntry N.spec_l5Copy G.spec_l5Copy n a0 a1 a2
theorem said_spec_MovedEntry (a0 : ByteArray) (a1 : Int) (a2 : (List ByteArray)) (g : G.spec_MovedEntry a0 a1 a2 = true) : Said Try.prog sigs_15 15 [.val .str a0, .val (.int .i64) a1, .val (.slice 9 .str) a2] [⟨(.pair .str (.pair (.int .i64) (.pair (.int .i64) (.slice 9 .str)))), N.spec_MovedEntry a0 a1 a2⟩] := said_len (T := tab) (A := A_spec_MovedEntry) tabOk ok_spec_MovedEntry tabOk.follows Try.func15 (by kernel_rfl) (by kernel_rfl) (fun hl => ⟨0, (a_spec_MovedEntry 0 a0 a1 a2).trans (spec_MovedEntry_ok (ρ := Ret) (fun r0 => some [⟨(.pair .str (.pair (.int .i64) (.pair (.int .i64) (.slice 9 .str)))), r0⟩]) a0 a1 a2 hl.2.2.1 g)⟩)
/-! slices.Clone[[]string,string] -/
abbrev G.slices_Clone_string (a : List ByteArray) : Bool := decide (a.length ≤ 1048576)
abbrev N.slices_Clone_string (a : List ByteArray) : List ByteArray := a
noncomputable def slices_Clone_string {ρ : Type} (k : (List ByteArray) → Option ρ) (a0 : (List ByteArray)) : Option ρ := (cond (List.isEmpty a0) (both (k []) (cond (fit (List.length ([] : (List ByteArray))) (List.length a0)) (k (List.append ([] : (List ByteArray)) a0)) none)) (cond (fit (List.length ([] : (List ByteArray))) (List.length a0)) (k (List.append ([] : (List ByteArray)) a0)) none))
theorem slices_Clone_string_ok {ρ : Type} (k : (List ByteArray) → Option ρ) (a0 : (List ByteArray)) (l_a0 : lnL (fun _ => True) a0) (g : G.slices_Clone_string a0 = true) : slices_Clone_string k  a0 = k (N.slices_Clone_string a0) := by
  unfold G.slices_Clone_string at g
  have h1 : fit (List.length ([] : List ByteArray)) (List.length a0) = true := fit_of (by have := of_decide_eq_true g; simp; omega)
  unfold slices_Clone_string
  rw [h1]
  cases a0 with
  | nil => exact both_self _
  | cons x l => rfl
def O_slices_Clone_string : Orac := nilO
theorem ok_slices_Clone_string : OracOk Try.prog sigs O_slices_Clone_string := nilO_ok
def A_slices_Clone_string : Ann := fun b => ⟨[], []⟩
theorem a_slices_Clone_string (n : Nat) (a0 : (List ByteArray)) : absF tab sigs O_slices_Clone_string A_slices_Clone_string Try.f38 [((.slice 9 .str), (.own 0))] n [.val (.slice 9 .str) a0] = slices_Clone_string (fun r0 => some [⟨(.slice 9 .str), r0⟩])  a0 := by kernel_rfl
theorem said_slices_Clone_string (a0 : (List ByteArray)) (g : G.slices_Clone_string a0 = true) : Said Try.prog sigs_38 38 [.val (.slice 9 .str) a0] [⟨(.slice 9 .str), N.slices_Clone_string a0⟩] := said_len (T := tab) (A := A_slices_Clone_string) tabOk ok_slices_Clone_string tabOk.follows Try.func38 (by kernel_rfl) (by kernel_rfl) (fun hl => ⟨0, (a_slices_Clone_string 0 a0).trans (slices_Clone_string_ok (ρ := Ret) (fun r0 => some [⟨(.slice 9 .str), r0⟩]) a0 hl.1 g)⟩)
/-! impl.MovedEntry -/
abbrev G.impl_MovedEntry (s : ByteArray) (i : Int) (p : List ByteArray) : Bool := decide (p.length ≤ 1048576)
abbrev N.impl_MovedEntry (s : ByteArray) (i : Int) (p : List ByteArray) : TEntry := (s, (3, (i, p)))
def impl_MovedEntry {ρ : Type} (k : TEntry → Option ρ) (a0 : ByteArray) (a1 : Int) (a2 : (List ByteArray)) : Option ρ := (cond (G.slices_Clone_string a2) (k (a0, ((3 : Int), (a1, (N.slices_Clone_string a2))))) none)
theorem impl_MovedEntry_ok {ρ : Type} (k : TEntry → Option ρ) (a0 : ByteArray) (a1 : Int) (a2 : (List ByteArray)) (l_a2 : lnL (fun _ => True) a2) (g : G.impl_MovedEntry a0 a1 a2 = true) : impl_MovedEntry k  a0 a1 a2 = k (N.impl_MovedEntry a0 a1 a2) := by
  unfold G.impl_MovedEntry at g
  show cond (decide (a2.length ≤ 1048576)) _ none = _
  rw [g]
  rfl
def OP_impl_MovedEntry (f_slices_Clone_string : (List ByteArray) → (List ByteArray)) (g_slices_Clone_string : (List ByteArray) → Bool) : Orac := (orcX 38 [.val (.slice 9 .str)] (fun d => g_slices_Clone_string d.1) (fun d => [⟨(.slice 9 .str), f_slices_Clone_string d.1⟩]) nilO)
def O_impl_MovedEntry : Orac := OP_impl_MovedEntry N.slices_Clone_string G.slices_Clone_string
def impl_MovedEntry_P {ρ : Type} (f_slices_Clone_string : (List ByteArray) → (List ByteArray)) (g_slices_Clone_string : (List ByteArray) → Bool) (k : TEntry → Option ρ) (a0 : ByteArray) (a1 : Int) (a2 : (List ByteArray)) : Option ρ := (cond (g_slices_Clone_string a2) (k (a0, ((3 : Int), (a1, (f_slices_Clone_string a2))))) none)
theorem ok_impl_MovedEntry : OracOk Try.prog sigs O_impl_MovedEntry := (orcX_ok rfl rfl (fun d g => said_slices_Clone_string d.1 g) nilO_ok)
def A_impl_MovedEntry : Ann := fun b => ⟨[], []⟩
theorem aP_impl_MovedEntry (f_slices_Clone_string : (List ByteArray) → (List ByteArray)) (g_slices_Clone_string : (List ByteArray) → Bool) (n : Nat) (a0 : ByteArray) (a1 : Int) (a2 : (List ByteArray)) : absF tab sigs (OP_impl_MovedEntry f_slices_Clone_string g_slices_Clone_string) A_impl_MovedEntry Try.f17 [((.pair .str (.pair (.int .i64) (.pair (.int .i64) (.slice 9 .str)))), (.pair .no (.pair .no (.pair .no (.own 0)))))] n [.val .str a0, .val (.int .i64) a1, .val (.slice 9 .str) a2] = impl_MovedEntry_P f_slices_Clone_string g_slices_Clone_string (fun r0 => some [⟨(.pair .str (.pair (.int .i64) (.pair (.int .i64) (.slice 9 .str)))), r0⟩])  a0 a1 a2 := by kernel_rfl
theorem a_impl_MovedEntry (n : Nat) (a0 : ByteArray) (a1 : Int) (a2 : (List ByteArray)) : absF tab sigs O_impl_MovedEntry A_impl_MovedEntry Try.f17 [((.pair .str (.pair (.int .i64) (.pair (.int .i64) (.slice 9 .str)))), (.pair .no (.pair .no (.pair .no (.own 0)))))] n [.val .str a0, .val (.int .i64) a1, .val (.slice 9 .str) a2] = impl_MovedEntry (fun r0 => some [⟨(.pair .str (.pair (.int .i64) (.pair (.int .i64) (.slice 9 .str)))), r0⟩])  a0 a1 a2 := aP_impl_MovedEntry N.slices_Clone_string G.slices_Clone_string n a0 a1 a2
theorem said_impl_MovedEntry (a0 : ByteArray) (a1 : Int) (a2 : (List ByteArray)) (g : G.impl_MovedEntry a0 a1 a2 = true) : Said Try.prog sigs_17 17 [.val .str a0, .val (.int .i64) a1, .val (.slice 9 .str) a2] [⟨(.pair .str (.pair (.int .i64) (.pair (.int .i64) (.slice 9 .str)))), N.impl_MovedEntry a0 a1 a2⟩] := said_len (T := tab) (A := A_impl_MovedEntry) tabOk ok_impl_MovedEntry tabOk.follows Try.func17 (by kernel_rfl) (by kernel_rfl) (fun hl => ⟨0, (a_impl_MovedEntry 0 a0 a1 a2).trans (impl_MovedEntry_ok (ρ := Ret) (fun r0 => some [⟨(.pair .str (.pair (.int .i64) (.pair (.int .i64) (.slice 9 .str)))), r0⟩]) a0 a1 a2 hl.2.2.1 g)⟩)
/-! laws.eqStringS -/
abbrev N.laws_eqStringS (a b : List ByteArray) : Bool := eqStrs a b
def laws_eqStringS_L0 {ρ : Type} (k : Bool → Option ρ) (L0 : (List ByteArray) → (List ByteArray) → Int → Option ρ) (v0_0 : (List ByteArray)) (v0_1 : (List ByteArray)) (v0_2 : Int) : Option ρ := (cond (decide (v0_2 < (List.length v0_0 : Int))) (cond (inRange v0_2 (List.length v0_0)) (cond (inRange v0_2 (List.length v0_1)) (cond (!((ByteArray.toList (List.getD v0_0 (Int.toNat v0_2) ByteArray.empty)) == (ByteArray.toList (List.getD v0_1 (Int.toNat v0_2) ByteArray.empty)))) (k false) (L0 v0_0 v0_1 (IntKind.wrap .i64 (v0_2 + (1 : Int))))) none) none) (k true))
def laws_eqStringS {ρ : Type} (k : Bool → Option ρ) (L0 : (List ByteArray) → (List ByteArray) → Int → Option ρ) (a0 : (List ByteArray)) (a1 : (List ByteArray)) : Option ρ := (cond ((List.length a0 : Int) != (List.length a1 : Int)) (k false) (L0 a0 a1 (0 : Int)))
theorem laws_eqStringS_ok {ρ : Type} (k : Bool → Option ρ) (a0 : (List ByteArray)) (a1 : (List ByteArray)) (l_a0 : lnL (fun _ => True) a0) (l_a1 : lnL (fun _ => True) a1) : ∃ n0, ∀ n, n0 ≤ n → ∀ (L0 : Nat → (List ByteArray) → (List ByteArray) → Int → Option ρ) (h0 : ∀ ( m : Nat) (v0_0 : (List ByteArray)) (v0_1 : (List ByteArray)) (v0_2 : Int), L0 (m + 1) v0_0 v0_1 v0_2 = laws_eqStringS_L0 k (L0 m) v0_0 v0_1 v0_2), laws_eqStringS k (L0 n) a0 a1 = k (N.laws_eqStringS a0 a1) := by
  exact ⟨a0.length + 1, fun n hn L0 h0 => eq_all (p := eqStr) (d := ByteArray.empty) l_a0.1 (L := fun m i => L0 m a0 a1 i) (fun m i => h0 m a0 a1 i) hn⟩
def O_laws_eqStringS : Orac := nilO
theorem ok_laws_eqStringS : OracOk Try.prog sigs O_laws_eqStringS := nilO_ok
def A_laws_eqStringS : Ann := fun b => cond (Nat.beq b 0) ⟨[(0, false), (1, false), (5, false)], []⟩ (⟨[], []⟩)
def S_laws_eqStringS_0 (v0_0 : (List ByteArray)) (v0_1 : (List ByteArray)) (v0_2 : Int) : St := [(kT 0, some (.tv (.v (.slice 9 .str) v0_0 .no))), (kT 1, some (.tv (.v (.slice 9 .str) v0_1 .no))), (kT 5, some (.tv (.v (.int .i64) v0_2 .no)))]
noncomputable def L_laws_eqStringS_0 (n m : Nat) : St → Option Ret := loopOf tab sigs O_laws_eqStringS A_laws_eqStringS Try.f18 [(.bool, .no)] n (fun _ => 0) 0 m
theorem b_laws_eqStringS_0 (n m : Nat) (v0_0 : (List ByteArray)) (v0_1 : (List ByteArray)) (v0_2 : Int) : L_laws_eqStringS_0 n (m + 1) (S_laws_eqStringS_0 v0_0 v0_1 v0_2) = laws_eqStringS_L0 (fun r0 => some [⟨.bool, r0⟩]) (fun v0_0 v0_1 v0_2 => L_laws_eqStringS_0 n m (S_laws_eqStringS_0 v0_0 v0_1 v0_2)) v0_0 v0_1 v0_2 := by kernel_rfl
theorem a_laws_eqStringS (n : Nat) (a0 : (List ByteArray)) (a1 : (List ByteArray)) : absF tab sigs O_laws_eqStringS A_laws_eqStringS Try.f18 [(.bool, .no)] n [.val (.slice 9 .str) a0, .val (.slice 9 .str) a1] = laws_eqStringS (fun r0 => some [⟨.bool, r0⟩]) (fun v0_0 v0_1 v0_2 => L_laws_eqStringS_0 n n (S_laws_eqStringS_0 v0_0 v0_1 v0_2)) a0 a1 := by kernel_rfl
theorem said_laws_eqStringS (a0 : (List ByteArray)) (a1 : (List ByteArray)) : Said Try.prog sigs_18 18 [.val (.slice 9 .str) a0, .val (.slice 9 .str) a1] [⟨.bool, N.laws_eqStringS a0 a1⟩] := said_len (T := tab) (A := A_laws_eqStringS) tabOk ok_laws_eqStringS tabOk.follows Try.func18 (by kernel_rfl) (by kernel_rfl) (fun hl => let ⟨n, hn⟩ := laws_eqStringS_ok (ρ := Ret) (fun r0 => some [⟨.bool, r0⟩]) a0 a1 hl.1 hl.2.1; ⟨n, (a_laws_eqStringS n a0 a1).trans (hn n (Nat.le_refl n) (fun  m v0_0 v0_1 v0_2 => L_laws_eqStringS_0 n  m (S_laws_eqStringS_0 v0_0 v0_1 v0_2)) (fun  m v0_0 v0_1 v0_2 => b_laws_eqStringS_0 n  m v0_0 v0_1 v0_2))⟩)
/-! laws.eqEntry -/
abbrev N.laws_eqEntry (a b : TEntry) : Bool := eqEntry a b
def laws_eqEntry {ρ : Type} (k : Bool → Option ρ) (a0 : TEntry) (a1 : TEntry) : Option ρ := (cond (!((ByteArray.toList a0.1) == (ByteArray.toList a1.1))) (k false) (cond (a0.2.1 != a1.2.1) (k false) (cond (a0.2.2.1 != a1.2.2.1) (k false) (cond (!(N.laws_eqStringS a0.2.2.2 a1.2.2.2)) (k false) (k true)))))
theorem laws_eqEntry_ok {ρ : Type} (k : Bool → Option ρ) (a0 : TEntry) (a1 : TEntry) (l_a0 : (True ∧ (True ∧ (True ∧ lnL (fun _ => True) a0.2.2.2)))) (l_a1 : (True ∧ (True ∧ (True ∧ lnL (fun _ => True) a1.2.2.2)))) : laws_eqEntry k  a0 a1 = k (N.laws_eqEntry a0 a1) := by
  simp only [laws_eqEntry, N.laws_eqEntry, N.laws_eqStringS, eqEntry, eqStr, bne]
  cases a0.1.toList == a1.1.toList
  · rfl
  cases a0.2.1 == a1.2.1
  · rfl
  cases a0.2.2.1 == a1.2.2.1
  · rfl
  cases eqStrs a0.2.2.2 a1.2.2.2 <;> rfl
def OP_laws_eqEntry (f_laws_eqStringS : (List ByteArray) → (List ByteArray) → Bool) : Orac := (orcX 18 [.val (.slice 9 .str), .val (.slice 9 .str)] (fun d => true) (fun d => [⟨.bool, f_laws_eqStringS d.1 d.2.1⟩]) nilO)
def O_laws_eqEntry : Orac := OP_laws_eqEntry N.laws_eqStringS
def laws_eqEntry_P {ρ : Type} (f_laws_eqStringS : (List ByteArray) → (List ByteArray) → Bool) (k : Bool → Option ρ) (a0 : TEntry) (a1 : TEntry) : Option ρ := (cond (!((ByteArray.toList a0.1) == (ByteArray.toList a1.1))) (k false) (cond (a0.2.1 != a1.2.1) (k false) (cond (a0.2.2.1 != a1.2.2.1) (k false) (cond (!(f_laws_eqStringS a0.2.2.2 a1.2.2.2)) (k false) (k true)))))
theorem ok_laws_eqEntry : OracOk Try.prog sigs O_laws_eqEntry := (orcX_ok rfl rfl (fun d g => said_laws_eqStringS d.1 d.2.1) nilO_ok)
def A_laws_eqEntry : Ann := fun b => ⟨[], []⟩
theorem aP_laws_eqEntry (f_laws_eqStringS : (List ByteArray) → (List ByteArray) → Bool) (n : Nat) (a0 : TEntry) (a1 : TEntry) : absF tab sigs (OP_laws_eqEntry f_laws_eqStringS) A_laws_eqEntry Try.f13 [(.bool, .no)] n [.val (.pair .str (.pair (.int .i64) (.pair (.int .i64) (.slice 9 .str)))) a0, .val (.pair .str (.pair (.int .i64) (.pair (.int .i64) (.slice 9 .str)))) a1] = laws_eqEntry_P f_laws_eqStringS (fun r0 => some [⟨.bool, r0⟩])  a0 a1 := by kernel_rfl
theorem a_laws_eqEntry (n : Nat) (a0 : TEntry) (a1 : TEntry) : absF tab sigs O_laws_eqEntry A_laws_eqEntry Try.f13 [(.bool, .no)] n [.val (.pair .str (.pair (.int .i64) (.pair (.int .i64) (.slice 9 .str)))) a0, .val (.pair .str (.pair (.int .i64) (.pair (.int .i64) (.slice 9 .str)))) a1] = laws_eqEntry (fun r0 => some [⟨.bool, r0⟩])  a0 a1 := aP_laws_eqEntry N.laws_eqStringS n a0 a1
theorem said_laws_eqEntry (a0 : TEntry) (a1 : TEntry) : Said Try.prog sigs_13 13 [.val (.pair .str (.pair (.int .i64) (.pair (.int .i64) (.slice 9 .str)))) a0, .val (.pair .str (.pair (.int .i64) (.pair (.int .i64) (.slice 9 .str)))) a1] [⟨.bool, N.laws_eqEntry a0 a1⟩] := said_len (T := tab) (A := A_laws_eqEntry) tabOk ok_laws_eqEntry tabOk.follows Try.func13 (by kernel_rfl) (by kernel_rfl) (fun hl => ⟨0, (a_laws_eqEntry 0 a0 a1).trans (laws_eqEntry_ok (ρ := Ret) (fun r0 => some [⟨.bool, r0⟩]) a0 a1 hl.1 hl.2.1)⟩)
/-! laws.markText -/
abbrev N.laws_markText (k : Int) : ByteArray := markTextM k
def laws_markText_L0 {ρ : Type} (k : ByteArray → Option ρ) (L0 : Int → ByteArray → Option ρ) (v0_0 : Int) (v0_1 : ByteArray) : Option ρ := (cond (decide (v0_0 > (0 : Int))) (cond (decide (ByteArray.size (strOfNums [(IntKind.wrap .u8 (IntKind.wrap .i64 ((48 : Int) + (Int.tmod v0_0 (10 : Int)))))]) + ByteArray.size v0_1 ≤ 9223372036854775807)) (L0 (IntKind.wrap .i64 (Int.tdiv v0_0 (10 : Int))) ((strOfNums [(IntKind.wrap .u8 (IntKind.wrap .i64 ((48 : Int) + (Int.tmod v0_0 (10 : Int)))))]) ++ v0_1)) none) (cond (decide (ByteArray.size (ByteArray.mk #[109]) + ByteArray.size v0_1 ≤ 9223372036854775807)) (k ((ByteArray.mk #[109]) ++ v0_1)) none))
def laws_markText {ρ : Type} (k : ByteArray → Option ρ) (L0 : Int → ByteArray → Option ρ) (a0 : Int) : Option ρ := (cond (decide (a0 ≤ (0 : Int))) (k (ByteArray.mk #[109, 48])) (L0 a0 (ByteArray.mk #[])))
theorem laws_markText_ok {ρ : Type} (k : ByteArray → Option ρ) (a0 : Int) : ∃ n0, ∀ n, n0 ≤ n → ∀ (L0 : Nat → Int → ByteArray → Option ρ) (h0 : ∀ ( m : Nat) (v0_0 : Int) (v0_1 : ByteArray), L0 (m + 1) v0_0 v0_1 = laws_markText_L0 k (L0 m) v0_0 v0_1), laws_markText k (L0 n) a0 = k (N.laws_markText a0) := by
  exact ⟨30, fun n hn L0 h0 => markText_run (fun m k' o => h0 m k' o) hn⟩
def O_laws_markText : Orac := nilO
theorem ok_laws_markText : OracOk Try.prog sigs O_laws_markText := nilO_ok
def A_laws_markText : Ann := fun b => cond (Nat.beq b 0) ⟨[(0, false), (3, false)], []⟩ (⟨[], []⟩)
def S_laws_markText_0 (v0_0 : Int) (v0_1 : ByteArray) : St := [(kT 0, some (.tv (.v (.int .i64) v0_0 .no))), (kT 3, some (.tv (.v .str v0_1 .no)))]
noncomputable def L_laws_markText_0 (n m : Nat) : St → Option Ret := loopOf tab sigs O_laws_markText A_laws_markText Try.f39 [(.str, .no)] n (fun _ => 0) 0 m
theorem b_laws_markText_0 (n m : Nat) (v0_0 : Int) (v0_1 : ByteArray) : L_laws_markText_0 n (m + 1) (S_laws_markText_0 v0_0 v0_1) = laws_markText_L0 (fun r0 => some [⟨.str, r0⟩]) (fun v0_0 v0_1 => L_laws_markText_0 n m (S_laws_markText_0 v0_0 v0_1)) v0_0 v0_1 := by kernel_rfl
theorem a_laws_markText (n : Nat) (a0 : Int) : absF tab sigs O_laws_markText A_laws_markText Try.f39 [(.str, .no)] n [.val (.int .i64) a0] = laws_markText (fun r0 => some [⟨.str, r0⟩]) (fun v0_0 v0_1 => L_laws_markText_0 n n (S_laws_markText_0 v0_0 v0_1)) a0 := by kernel_rfl
theorem said_laws_markText (a0 : Int) : Said Try.prog sigs_39 39 [.val (.int .i64) a0] [⟨.str, N.laws_markText a0⟩] := said_len (T := tab) (A := A_laws_markText) tabOk ok_laws_markText tabOk.follows Try.func39 (by kernel_rfl) (by kernel_rfl) (fun hl => let ⟨n, hn⟩ := laws_markText_ok (ρ := Ret) (fun r0 => some [⟨.str, r0⟩]) a0; ⟨n, (a_laws_markText n a0).trans (hn n (Nat.le_refl n) (fun  m v0_0 v0_1 => L_laws_markText_0 n  m (S_laws_markText_0 v0_0 v0_1)) (fun  m v0_0 v0_1 => b_laws_markText_0 n  m v0_0 v0_1))⟩)
/-! laws.markStringS -/
abbrev N.laws_markStringS (l : List ByteArray) (k : Int) : Int × List ByteArray := (upI k l.length, mkS k l.length)
def laws_markStringS_L0 {ρ : Type} (k : Int → (List ByteArray) → Option ρ) (L0 : Int → Int → (List ByteArray) → Option ρ) (v0_0 : Int) (v0_1 : Int) (v0_2 : (List ByteArray)) : Option ρ := (cond (decide (v0_1 < (List.length v0_2 : Int))) (cond (inRange v0_1 (List.length v0_2)) (cond (inRange v0_1 (List.length v0_2)) (L0 (IntKind.wrap .i64 (v0_0 + (1 : Int))) (IntKind.wrap .i64 (v0_1 + (1 : Int))) (List.set v0_2 (Int.toNat v0_1) (N.laws_markText v0_0))) none) none) (k v0_0 v0_2))
def laws_markStringS {ρ : Type} (k : Int → (List ByteArray) → Option ρ) (L0 : Int → Int → (List ByteArray) → Option ρ) (a0 : (List ByteArray)) (a1 : Int) : Option ρ := (L0 a1 (0 : Int) a0)
theorem laws_markStringS_ok {ρ : Type} (k : Int → (List ByteArray) → Option ρ) (a0 : (List ByteArray)) (a1 : Int) (l_a0 : lnL (fun _ => True) a0) : ∃ n0, ∀ n, n0 ≤ n → ∀ (L0 : Nat → Int → Int → (List ByteArray) → Option ρ) (h0 : ∀ ( m : Nat) (v0_0 : Int) (v0_1 : Int) (v0_2 : (List ByteArray)), L0 (m + 1) v0_0 v0_1 v0_2 = laws_markStringS_L0 k (L0 m) v0_0 v0_1 v0_2), laws_markStringS k (L0 n) a0 a1 = k (N.laws_markStringS a0 a1).1 (N.laws_markStringS a0 a1).2 := by
  refine ⟨a0.length + 1, fun n hn L0 h0 => ?_⟩
  refine raw_mark (v := markTextM) (s := s1) (K := k) (L := L0) l_a0.1 (fun m k' j p hp hj => ?_) (fun m k' p hp => ?_) hn
  · have : j < big := by have := l_a0.1; omega
    rw [h0]
    simp [laws_markStringS_L0, lt_nat, inRange_nat, hj, wrap_succ this, s1]
  · rw [h0]
    simp [laws_markStringS_L0, lt_nat, hp]
def OP_laws_markStringS (f_laws_markText : Int → ByteArray) : Orac := (orcX 39 [.val (.int .i64)] (fun d => true) (fun d => [⟨.str, f_laws_markText d.1⟩]) nilO)
def O_laws_markStringS : Orac := OP_laws_markStringS N.laws_markText
def laws_markStringS_P_L0 {ρ : Type} (f_laws_markText : Int → ByteArray) (k : Int → (List ByteArray) → Option ρ) (L0 : Int → Int → (List ByteArray) → Option ρ) (v0_0 : Int) (v0_1 : Int) (v0_2 : (List ByteArray)) : Option ρ := (cond (decide (v0_1 < (List.length v0_2 : Int))) (cond (inRange v0_1 (List.length v0_2)) (cond (inRange v0_1 (List.length v0_2)) (L0 (IntKind.wrap .i64 (v0_0 + (1 : Int))) (IntKind.wrap .i64 (v0_1 + (1 : Int))) (List.set v0_2 (Int.toNat v0_1) (f_laws_markText v0_0))) none) none) (k v0_0 v0_2))
def laws_markStringS_P {ρ : Type} (f_laws_markText : Int → ByteArray) (k : Int → (List ByteArray) → Option ρ) (L0 : Int → Int → (List ByteArray) → Option ρ) (a0 : (List ByteArray)) (a1 : Int) : Option ρ := (L0 a1 (0 : Int) a0)
theorem ok_laws_markStringS : OracOk Try.prog sigs O_laws_markStringS := (orcX_ok rfl rfl (fun d g => said_laws_markText d.1) nilO_ok)
def A_laws_markStringS : Ann := fun b => cond (Nat.beq b 0) ⟨[(0, true), (1, false), (5, false)], []⟩ (⟨[], []⟩)
def S_laws_markStringS_0 (v0_0 : Int) (v0_1 : Int) (v0_2 : (List ByteArray)) : St := [(kT 0, some (.tv (.v (.slice 9 .str) [] (.own 0)))), (kT 1, some (.tv (.v (.int .i64) v0_0 .no))), (kT 5, some (.tv (.v (.int .i64) v0_1 .no))), (kR 0, some (.row 9 .str v0_2))]
noncomputable def L_P_laws_markStringS_0 (f_laws_markText : Int → ByteArray) (n m : Nat) : St → Option Ret := loopOf tab sigs (OP_laws_markStringS f_laws_markText) A_laws_markStringS (lentF Try.f19) [((.int .i64), .no), ((.slice 9 .str), (.own 0))] n (fun _ => 0) 0 m
noncomputable def L_laws_markStringS_0 (n m : Nat) : St → Option Ret := L_P_laws_markStringS_0 N.laws_markText n m
theorem bP_laws_markStringS_0 (f_laws_markText : Int → ByteArray) (n m : Nat) (v0_0 : Int) (v0_1 : Int) (v0_2 : (List ByteArray)) : L_P_laws_markStringS_0 f_laws_markText n (m + 1) (S_laws_markStringS_0 v0_0 v0_1 v0_2) = laws_markStringS_P_L0 f_laws_markText (fun r0 r1 => some [⟨(.int .i64), r0⟩, ⟨(.slice 9 .str), r1⟩]) (fun v0_0 v0_1 v0_2 => L_P_laws_markStringS_0 f_laws_markText n m (S_laws_markStringS_0 v0_0 v0_1 v0_2)) v0_0 v0_1 v0_2 := by kernel_rfl
theorem b_laws_markStringS_0 (n m : Nat) (v0_0 : Int) (v0_1 : Int) (v0_2 : (List ByteArray)) : L_laws_markStringS_0 n (m + 1) (S_laws_markStringS_0 v0_0 v0_1 v0_2) = laws_markStringS_L0 (fun r0 r1 => some [⟨(.int .i64), r0⟩, ⟨(.slice 9 .str), r1⟩]) (fun v0_0 v0_1 v0_2 => L_laws_markStringS_0 n m (S_laws_markStringS_0 v0_0 v0_1 v0_2)) v0_0 v0_1 v0_2 := bP_laws_markStringS_0 N.laws_markText n m v0_0 v0_1 v0_2
theorem aP_laws_markStringS (f_laws_markText : Int → ByteArray) (n : Nat) (a0 : (List ByteArray)) (a1 : Int) : absFM tab sigs (OP_laws_markStringS f_laws_markText) A_laws_markStringS Try.f19 n (.slice 9 .str) a0 (.own 0) a1 = laws_markStringS_P f_laws_markText (fun r0 r1 => some [⟨(.int .i64), r0⟩, ⟨(.slice 9 .str), r1⟩]) (fun v0_0 v0_1 v0_2 => L_P_laws_markStringS_0 f_laws_markText n n (S_laws_markStringS_0 v0_0 v0_1 v0_2)) a0 a1 := by kernel_rfl
theorem a_laws_markStringS (n : Nat) (a0 : (List ByteArray)) (a1 : Int) : absFM tab sigs O_laws_markStringS A_laws_markStringS Try.f19 n (.slice 9 .str) a0 (.own 0) a1 = laws_markStringS (fun r0 r1 => some [⟨(.int .i64), r0⟩, ⟨(.slice 9 .str), r1⟩]) (fun v0_0 v0_1 v0_2 => L_laws_markStringS_0 n n (S_laws_markStringS_0 v0_0 v0_1 v0_2)) a0 a1 := aP_laws_markStringS N.laws_markText n a0 a1
theorem said_laws_markStringS (a0 : (List ByteArray)) (a1 : Int) : SaidL Try.prog 19 (.slice 9 .str) a0 (.own 0) a1 [⟨(.int .i64), (N.laws_markStringS a0 a1).1⟩, ⟨(.slice 9 .str), (N.laws_markStringS a0 a1).2⟩] := said_lenM (T := tab) (A := A_laws_markStringS) tabOk ok_laws_markStringS tabOk.follows rfl Try.func19 (by kernel_rfl) (by kernel_rfl) (fun hl => let ⟨n, hn⟩ := laws_markStringS_ok (ρ := Ret) (fun r0 r1 => some [⟨(.int .i64), r0⟩, ⟨(.slice 9 .str), r1⟩]) a0 a1 hl; ⟨n, (a_laws_markStringS n a0 a1).trans (hn n (Nat.le_refl n) (fun  m v0_0 v0_1 v0_2 => L_laws_markStringS_0 n  m (S_laws_markStringS_0 v0_0 v0_1 v0_2)) (fun  m v0_0 v0_1 v0_2 => b_laws_markStringS_0 n  m v0_0 v0_1 v0_2))⟩)
/-! laws.markEntry -/
abbrev N.laws_markEntry (a : TEntry) (k : Int) : Int × TEntry := (upI k a.2.2.2.length, (a.1, (a.2.1, (a.2.2.1, mkS k a.2.2.2.length))))
def laws_markEntry {ρ : Type} (k : Int → TEntry → Option ρ) (a0 : TEntry) (a1 : Int) : Option ρ := (k (N.laws_markStringS a0.2.2.2 a1).1 (a0.1, (a0.2.1, (a0.2.2.1, (N.laws_markStringS a0.2.2.2 a1).2))))
theorem laws_markEntry_ok {ρ : Type} (k : Int → TEntry → Option ρ) (a0 : TEntry) (a1 : Int) (l_a0 : (True ∧ (True ∧ (True ∧ lnL (fun _ => True) a0.2.2.2)))) : laws_markEntry k  a0 a1 = k (N.laws_markEntry a0 a1).1 (N.laws_markEntry a0 a1).2 := by
  rfl
def OP_laws_markEntry (f_laws_markStringS : (List ByteArray) → Int → (Int × (List ByteArray))) : Orac := (orcX 19 [.lend (.slice 9 .str) (.own 0), .val (.int .i64)] (fun d => true) (fun d => [⟨(.int .i64), (f_laws_markStringS d.1 d.2.1).1⟩, ⟨(.slice 9 .str), (f_laws_markStringS d.1 d.2.1).2⟩]) nilO)
def O_laws_markEntry : Orac := OP_laws_markEntry N.laws_markStringS
def laws_markEntry_P {ρ : Type} (f_laws_markStringS : (List ByteArray) → Int → (Int × (List ByteArray))) (k : Int → TEntry → Option ρ) (a0 : TEntry) (a1 : Int) : Option ρ := (k (f_laws_markStringS a0.2.2.2 a1).1 (a0.1, (a0.2.1, (a0.2.2.1, (f_laws_markStringS a0.2.2.2 a1).2))))
theorem ok_laws_markEntry : OracOk Try.prog sigs O_laws_markEntry := (orcM_ok rfl (fun d g => said_laws_markStringS d.1 d.2.1) nilO_ok)
def A_laws_markEntry : Ann := fun b => ⟨[], []⟩
theorem aP_laws_markEntry (f_laws_markStringS : (List ByteArray) → Int → (Int × (List ByteArray))) (n : Nat) (a0 : TEntry) (a1 : Int) : absFM tab sigs (OP_laws_markEntry f_laws_markStringS) A_laws_markEntry Try.f20 n (.pair .str (.pair (.int .i64) (.pair (.int .i64) (.slice 9 .str)))) a0 (.pair .no (.pair .no (.pair .no (.own 0)))) a1 = laws_markEntry_P f_laws_markStringS (fun r0 r1 => some [⟨(.int .i64), r0⟩, ⟨(.pair .str (.pair (.int .i64) (.pair (.int .i64) (.slice 9 .str)))), r1⟩])  a0 a1 := by kernel_rfl
theorem a_laws_markEntry (n : Nat) (a0 : TEntry) (a1 : Int) : absFM tab sigs O_laws_markEntry A_laws_markEntry Try.f20 n (.pair .str (.pair (.int .i64) (.pair (.int .i64) (.slice 9 .str)))) a0 (.pair .no (.pair .no (.pair .no (.own 0)))) a1 = laws_markEntry (fun r0 r1 => some [⟨(.int .i64), r0⟩, ⟨(.pair .str (.pair (.int .i64) (.pair (.int .i64) (.slice 9 .str)))), r1⟩])  a0 a1 := aP_laws_markEntry N.laws_markStringS n a0 a1
theorem said_laws_markEntry (a0 : TEntry) (a1 : Int) : SaidL Try.prog 20 (.pair .str (.pair (.int .i64) (.pair (.int .i64) (.slice 9 .str)))) a0 (.pair .no (.pair .no (.pair .no (.own 0)))) a1 [⟨(.int .i64), (N.laws_markEntry a0 a1).1⟩, ⟨(.pair .str (.pair (.int .i64) (.pair (.int .i64) (.slice 9 .str)))), (N.laws_markEntry a0 a1).2⟩] := said_lenM (T := tab) (A := A_laws_markEntry) tabOk ok_laws_markEntry tabOk.follows rfl Try.func20 (by kernel_rfl) (by kernel_rfl) (fun hl => ⟨0, (a_laws_markEntry 0 a0 a1).trans (laws_markEntry_ok (ρ := Ret) (fun r0 r1 => some [⟨(.int .i64), r0⟩, ⟨(.pair .str (.pair (.int .i64) (.pair (.int .i64) (.slice 9 .str)))), r1⟩]) a0 a1 hl)⟩)
/-! laws.heldStringS -/
abbrev N.laws_heldStringS (l : List ByteArray) (k : Int) : Int := heldS l k
def laws_heldStringS_L0 {ρ : Type} (k : Int → Option ρ) (L0 : (List ByteArray) → Int → Int → Option ρ) (v0_0 : (List ByteArray)) (v0_1 : Int) (v0_2 : Int) : Option ρ := (cond (decide (v0_2 < (List.length v0_0 : Int))) (cond (inRange v0_2 (List.length v0_0)) (cond (!((ByteArray.toList (List.getD v0_0 (Int.toNat v0_2) ByteArray.empty)) == (ByteArray.toList (N.laws_markText v0_1)))) (k (-1 : Int)) (L0 v0_0 (IntKind.wrap .i64 (v0_1 + (1 : Int))) (IntKind.wrap .i64 (v0_2 + (1 : Int))))) none) (k v0_1))
def laws_heldStringS {ρ : Type} (k : Int → Option ρ) (L0 : (List ByteArray) → Int → Int → Option ρ) (a0 : (List ByteArray)) (a1 : Int) : Option ρ := (L0 a0 a1 (0 : Int))
theorem laws_heldStringS_ok {ρ : Type} (k : Int → Option ρ) (a0 : (List ByteArray)) (a1 : Int) (l_a0 : lnL (fun _ => True) a0) : ∃ n0, ∀ n, n0 ≤ n → ∀ (L0 : Nat → (List ByteArray) → Int → Int → Option ρ) (h0 : ∀ ( m : Nat) (v0_0 : (List ByteArray)) (v0_1 : Int) (v0_2 : Int), L0 (m + 1) v0_0 v0_1 v0_2 = laws_heldStringS_L0 k (L0 m) v0_0 v0_1 v0_2), laws_heldStringS k (L0 n) a0 a1 = k (N.laws_heldStringS a0 a1) := by
  refine ⟨a0.length + 1, fun n hn L0 h0 => ?_⟩
  refine raw_held (c := fun a k => eqStr a (markTextM k)) (s := s1) (K := k) (L := fun m k i => L0 m a0 k i) ByteArray.empty l_a0.1 (fun m k' j hj => ?_) (fun m k' => ?_) hn
  · have : j < big := by have := l_a0.1; omega
    show L0 (m + 1) a0 k' (j : Int) = _
    rw [h0]
    simp only [laws_heldStringS_L0, lt_nat, inRange_nat, hj, wrap_succ this, s1, decide_true, cond_true, Int.toNat_natCast, eqStr]
    cases (ByteArray.toList (a0.getD j ByteArray.empty) == ByteArray.toList (markTextM k')) <;> rfl
  · show L0 (m + 1) a0 k' (a0.length : Int) = _
    rw [h0]
    simp [laws_heldStringS_L0]
def OP_laws_heldStringS (f_laws_markText : Int → ByteArray) : Orac := (orcX 39 [.val (.int .i64)] (fun d => true) (fun d => [⟨.str, f_laws_markText d.1⟩]) nilO)
def O_laws_heldStringS : Orac := OP_laws_heldStringS N.laws_markText
def laws_heldStringS_P_L0 {ρ : Type} (f_laws_markText : Int → ByteArray) (k : Int → Option ρ) (L0 : (List ByteArray) → Int → Int → Option ρ) (v0_0 : (List ByteArray)) (v0_1 : Int) (v0_2 : Int) : Option ρ := (cond (decide (v0_2 < (List.length v0_0 : Int))) (cond (inRange v0_2 (List.length v0_0)) (cond (!((ByteArray.toList (List.getD v0_0 (Int.toNat v0_2) ByteArray.empty)) == (ByteArray.toList (f_laws_markText v0_1)))) (k (-1 : Int)) (L0 v0_0 (IntKind.wrap .i64 (v0_1 + (1 : Int))) (IntKind.wrap .i64 (v0_2 + (1 : Int))))) none) (k v0_1))
def laws_heldStringS_P {ρ : Type} (f_laws_markText : Int → ByteArray) (k : Int → Option ρ) (L0 : (List ByteArray) → Int → Int → Option ρ) (a0 : (List ByteArray)) (a1 : Int) : Option ρ := (L0 a0 a1 (0 : Int))
theorem ok_laws_heldStringS : OracOk Try.prog sigs O_laws_heldStringS := (orcX_ok rfl rfl (fun d g => said_laws_markText d.1) nilO_ok)
def A_laws_heldStringS : Ann := fun b => cond (Nat.beq b 0) ⟨[(0, false), (1, false), (5, false)], []⟩ (⟨[], []⟩)
def S_laws_heldStringS_0 (v0_0 : (List ByteArray)) (v0_1 : Int) (v0_2 : Int) : St := [(kT 0, some (.tv (.v (.slice 9 .str) v0_0 .no))), (kT 1, some (.tv (.v (.int .i64) v0_1 .no))), (kT 5, some (.tv (.v (.int .i64) v0_2 .no)))]
noncomputable def L_P_laws_heldStringS_0 (f_laws_markText : Int → ByteArray) (n m : Nat) : St → Option Ret := loopOf tab sigs (OP_laws_heldStringS f_laws_markText) A_laws_heldStringS Try.f32 [((.int .i64), .no)] n (fun _ => 0) 0 m
noncomputable def L_laws_heldStringS_0 (n m : Nat) : St → Option Ret := L_P_laws_heldStringS_0 N.laws_markText n m
theorem bP_laws_heldStringS_0 (f_laws_markText : Int → ByteArray) (n m : Nat) (v0_0 : (List ByteArray)) (v0_1 : Int) (v0_2 : Int) : L_P_laws_heldStringS_0 f_laws_markText n (m + 1) (S_laws_heldStringS_0 v0_0 v0_1 v0_2) = laws_heldStringS_P_L0 f_laws_markText (fun r0 => some [⟨(.int .i64), r0⟩]) (fun v0_0 v0_1 v0_2 => L_P_laws_heldStringS_0 f_laws_markText n m (S_laws_heldStringS_0 v0_0 v0_1 v0_2)) v0_0 v0_1 v0_2 := by kernel_rfl
theorem b_laws_heldStringS_0 (n m : Nat) (v0_0 : (List ByteArray)) (v0_1 : Int) (v0_2 : Int) : L_laws_heldStringS_0 n (m + 1) (S_laws_heldStringS_0 v0_0 v0_1 v0_2) = laws_heldStringS_L0 (fun r0 => some [⟨(.int .i64), r0⟩]) (fun v0_0 v0_1 v0_2 => L_laws_heldStringS_0 n m (S_laws_heldStringS_0 v0_0 v0_1 v0_2)) v0_0 v0_1 v0_2 := bP_laws_heldStringS_0 N.laws_markText n m v0_0 v0_1 v0_2
theorem aP_laws_heldStringS (f_laws_markText : Int → ByteArray) (n : Nat) (a0 : (List ByteArray)) (a1 : Int) : absF tab sigs (OP_laws_heldStringS f_laws_markText) A_laws_heldStringS Try.f32 [((.int .i64), .no)] n [.val (.slice 9 .str) a0, .val (.int .i64) a1] = laws_heldStringS_P f_laws_markText (fun r0 => some [⟨(.int .i64), r0⟩]) (fun v0_0 v0_1 v0_2 => L_P_laws_heldStringS_0 f_laws_markText n n (S_laws_heldStringS_0 v0_0 v0_1 v0_2)) a0 a1 := by kernel_rfl
theorem a_laws_heldStringS (n : Nat) (a0 : (List ByteArray)) (a1 : Int) : absF tab sigs O_laws_heldStringS A_laws_heldStringS Try.f32 [((.int .i64), .no)] n [.val (.slice 9 .str) a0, .val (.int .i64) a1] = laws_heldStringS (fun r0 => some [⟨(.int .i64), r0⟩]) (fun v0_0 v0_1 v0_2 => L_laws_heldStringS_0 n n (S_laws_heldStringS_0 v0_0 v0_1 v0_2)) a0 a1 := aP_laws_heldStringS N.laws_markText n a0 a1
theorem said_laws_heldStringS (a0 : (List ByteArray)) (a1 : Int) : Said Try.prog sigs_32 32 [.val (.slice 9 .str) a0, .val (.int .i64) a1] [⟨(.int .i64), N.laws_heldStringS a0 a1⟩] := said_len (T := tab) (A := A_laws_heldStringS) tabOk ok_laws_heldStringS tabOk.follows Try.func32 (by kernel_rfl) (by kernel_rfl) (fun hl => let ⟨n, hn⟩ := laws_heldStringS_ok (ρ := Ret) (fun r0 => some [⟨(.int .i64), r0⟩]) a0 a1 hl.1; ⟨n, (a_laws_heldStringS n a0 a1).trans (hn n (Nat.le_refl n) (fun  m v0_0 v0_1 v0_2 => L_laws_heldStringS_0 n  m (S_laws_heldStringS_0 v0_0 v0_1 v0_2)) (fun  m v0_0 v0_1 v0_2 => b_laws_heldStringS_0 n  m v0_0 v0_1 v0_2))⟩)
/-! laws.heldEntry -/
abbrev N.laws_heldEntry (a : TEntry) (k : Int) : Int := neg1 (heldS a.2.2.2 k)
def laws_heldEntry {ρ : Type} (k : Int → Option ρ) (a0 : TEntry) (a1 : Int) : Option ρ := (cond (decide ((N.laws_heldStringS a0.2.2.2 a1) < (0 : Int))) (k (-1 : Int)) (k (N.laws_heldStringS a0.2.2.2 a1)))
theorem laws_heldEntry_ok {ρ : Type} (k : Int → Option ρ) (a0 : TEntry) (a1 : Int) (l_a0 : (True ∧ (True ∧ (True ∧ lnL (fun _ => True) a0.2.2.2)))) : laws_heldEntry k  a0 a1 = k (N.laws_heldEntry a0 a1) := by
  show cond (decide (heldS a0.2.2.2 a1 < 0)) (k (-1)) (k (heldS a0.2.2.2 a1)) = k (neg1 (heldS a0.2.2.2 a1))
  unfold neg1
  cases decide (heldS a0.2.2.2 a1 < 0) <;> rfl
def OP_laws_heldEntry (f_laws_heldStringS : (List ByteArray) → Int → Int) : Orac := (orcX 32 [.val (.slice 9 .str), .val (.int .i64)] (fun d => true) (fun d => [⟨(.int .i64), f_laws_heldStringS d.1 d.2.1⟩]) nilO)
def O_laws_heldEntry : Orac := OP_laws_heldEntry N.laws_heldStringS
def laws_heldEntry_P {ρ : Type} (f_laws_heldStringS : (List ByteArray) → Int → Int) (k : Int → Option ρ) (a0 : TEntry) (a1 : Int) : Option ρ := (cond (decide ((f_laws_heldStringS a0.2.2.2 a1) < (0 : Int))) (k (-1 : Int)) (k (f_laws_heldStringS a0.2.2.2 a1)))
theorem ok_laws_heldEntry : OracOk Try.prog sigs O_laws_heldEntry := (orcX_ok rfl rfl (fun d g => said_laws_heldStringS d.1 d.2.1) nilO_ok)
def A_laws_heldEntry : Ann := fun b => ⟨[], []⟩
theorem aP_laws_heldEntry (f_laws_heldStringS : (List ByteArray) → Int → Int) (n : Nat) (a0 : TEntry) (a1 : Int) : absF tab sigs (OP_laws_heldEntry f_laws_heldStringS) A_laws_heldEntry Try.f21 [((.int .i64), .no)] n [.val (.pair .str (.pair (.int .i64) (.pair (.int .i64) (.slice 9 .str)))) a0, .val (.int .i64) a1] = laws_heldEntry_P f_laws_heldStringS (fun r0 => some [⟨(.int .i64), r0⟩])  a0 a1 := by kernel_rfl
theorem a_laws_heldEntry (n : Nat) (a0 : TEntry) (a1 : Int) : absF tab sigs O_laws_heldEntry A_laws_heldEntry Try.f21 [((.int .i64), .no)] n [.val (.pair .str (.pair (.int .i64) (.pair (.int .i64) (.slice 9 .str)))) a0, .val (.int .i64) a1] = laws_heldEntry (fun r0 => some [⟨(.int .i64), r0⟩])  a0 a1 := aP_laws_heldEntry N.laws_heldStringS n a0 a1
theorem said_laws_heldEntry (a0 : TEntry) (a1 : Int) : Said Try.prog sigs_21 21 [.val (.pair .str (.pair (.int .i64) (.pair (.int .i64) (.slice 9 .str)))) a0, .val (.int .i64) a1] [⟨(.int .i64), N.laws_heldEntry a0 a1⟩] := said_len (T := tab) (A := A_laws_heldEntry) tabOk ok_laws_heldEntry tabOk.follows Try.func21 (by kernel_rfl) (by kernel_rfl) (fun hl => ⟨0, (a_laws_heldEntry 0 a0 a1).trans (laws_heldEntry_ok (ρ := Ret) (fun r0 => some [⟨(.int .i64), r0⟩]) a0 a1 hl.1)⟩)
end Go.Proofs.Ytkiohdkbaliikaa.Ref
