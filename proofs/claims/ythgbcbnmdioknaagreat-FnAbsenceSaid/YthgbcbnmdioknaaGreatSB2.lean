/- Functions of the program: what each computes, and that it does so.
   Conditions: as each theorem states. -/
import Derived.Test.YthgbcbnmdioknaaGreatSB1
set_option linter.unusedVariables false
set_option linter.unusedSimpArgs false
set_option maxRecDepth 100000
namespace Go.Proofs.YthgbcbnmdioknaaGreat.Ref
open Go.RowKit Go.Proofs.YthgbcbnmdioknaaGreatW.PrintWords Go.Proofs.YthgbcbnmdioknaaGreatW.PrintLast
abbrev N.impl_FindEntry (l : List TEntry) (s : ByteArray) : Int := findEntry l s
def impl_FindEntry {ρ : Type} (k : Int → Option ρ) (a0 : (List TEntry)) (a1 : ByteArray) : Option ρ := (k (N.slices_IndexFunc_impl_Entry__impl_FindEntry_s1 a0 a1))
theorem impl_FindEntry_ok {ρ : Type} (k : Int → Option ρ) (a0 : (List TEntry)) (a1 : ByteArray) (l_a0 : lnL (fun y => (True ∧ (True ∧ (True ∧ lnL (fun _ => True) y.2.2.2)))) a0) : impl_FindEntry k  a0 a1 = k (N.impl_FindEntry a0 a1) := by
  rfl
def OP_impl_FindEntry (f0 : (List TEntry) → ByteArray → Int) : Orac := (orcX 81 [.val (.slice 29 TyEntry), .clo 82 [.str]] (fun d => true) (fun d => [⟨(.int .i64), f0 d.1 d.2.1.1⟩]) nilO)
def O_impl_FindEntry : Orac := OP_impl_FindEntry N.slices_IndexFunc_impl_Entry__impl_FindEntry_s1
def impl_FindEntry_P {ρ : Type} (f0 : (List TEntry) → ByteArray → Int) (k : Int → Option ρ) (a0 : (List TEntry)) (a1 : ByteArray) : Option ρ := (k (f0 a0 a1))
theorem ok_impl_FindEntry : OracOk Tryz.prog sigs O_impl_FindEntry := (orcX_ok rfl rfl (fun d g => said_slices_IndexFunc_impl_Entry__impl_FindEntry_s1 d.1 d.2.1.1) nilO_ok)
def A_impl_FindEntry : Ann := fun b => ⟨[], []⟩
theorem aP_impl_FindEntry (f0 : (List TEntry) → ByteArray → Int) (n : Nat) (a0 : (List TEntry)) (a1 : ByteArray) : absF tab sigs (OP_impl_FindEntry f0) A_impl_FindEntry Tryz.f31 [((.int .i64), .no)] n [.val (.slice 29 TyEntry) a0, .val .str a1] = impl_FindEntry_P f0 (fun r0 => some [⟨(.int .i64), r0⟩])  a0 a1 := by kernel_rfl
theorem said_impl_FindEntry (a0 : (List TEntry)) (a1 : ByteArray) : Said Tryz.prog sigs_31 31 [.val (.slice 29 TyEntry) a0, .val .str a1] [⟨(.int .i64), N.impl_FindEntry a0 a1⟩] := said_len (T := tab) (A := A_impl_FindEntry) tabOk ok_impl_FindEntry tabOk.follows Tryz.func31 (by kernel_rfl) (by kernel_rfl) (fun hl => ⟨0, (aP_impl_FindEntry N.slices_IndexFunc_impl_Entry__impl_FindEntry_s1 0 a0 a1).trans (impl_FindEntry_ok (ρ := Ret) (fun r0 => some [⟨(.int .i64), r0⟩]) a0 a1 hl.1)⟩)
abbrev N.impl_RankOf (l : List TEntry) (s : ByteArray) : Int := rankOf l s
def impl_RankOf_P_L0 {ρ : Type} (f0 : ByteArray → ByteArray → Int) (k : Int → Option ρ) (L0 : ByteArray → Int → (List TEntry) → Int → Int → Option ρ) (v0_0 : ByteArray) (v0_1 : Int) (v0_2 : (List TEntry)) (v0_3 : Int) (v0_4 : Int) : Option ρ := (cond (decide (v0_4 < v0_3)) (cond (inRange v0_4 (List.length v0_2)) (cond (decide ((f0 (List.getD v0_2 (Int.toNat v0_4) (ByteArray.empty, ((0 : Int), ((0 : Int), [])))).1 v0_0) < (0 : Int))) (L0 v0_0 (IntKind.wrap .i64 (v0_1 + (1 : Int))) v0_2 v0_3 (IntKind.wrap .i64 (v0_4 + (1 : Int)))) (L0 v0_0 v0_1 v0_2 v0_3 (IntKind.wrap .i64 (v0_4 + (1 : Int))))) none) (k v0_1))
def impl_RankOf_P {ρ : Type} (f0 : ByteArray → ByteArray → Int) (k : Int → Option ρ) (L0 : ByteArray → Int → (List TEntry) → Int → Int → Option ρ) (a0 : (List TEntry)) (a1 : ByteArray) : Option ρ := (L0 a1 (0 : Int) a0 (List.length a0 : Int) (0 : Int))
def impl_RankOf_L0 {ρ : Type} (k : Int → Option ρ) (L0 : ByteArray → Int → (List TEntry) → Int → Int → Option ρ) (v0_0 : ByteArray) (v0_1 : Int) (v0_2 : (List TEntry)) (v0_3 : Int) (v0_4 : Int) : Option ρ := impl_RankOf_P_L0 N.impl_CompareLabels k L0 v0_0 v0_1 v0_2 v0_3 v0_4
def impl_RankOf {ρ : Type} (k : Int → Option ρ) (L0 : ByteArray → Int → (List TEntry) → Int → Int → Option ρ) (a0 : (List TEntry)) (a1 : ByteArray) : Option ρ := impl_RankOf_P N.impl_CompareLabels k L0 a0 a1
theorem impl_RankOf_ok {ρ : Type} (k : Int → Option ρ) (a0 : (List TEntry)) (a1 : ByteArray) (l_a0 : lnL (fun y => (True ∧ (True ∧ (True ∧ lnL (fun _ => True) y.2.2.2)))) a0) : ∃ n0, ∀ n, n0 ≤ n → ∀ (L0 : Nat → ByteArray → Int → (List TEntry) → Int → Int → Option ρ) (h0 : ∀ ( m : Nat) (v0_0 : ByteArray) (v0_1 : Int) (v0_2 : (List TEntry)) (v0_3 : Int) (v0_4 : Int), L0 (m + 1) v0_0 v0_1 v0_2 v0_3 v0_4 = impl_RankOf_L0 k (L0 m) v0_0 v0_1 v0_2 v0_3 v0_4), impl_RankOf k (L0 n) a0 a1 = k (N.impl_RankOf a0 a1) := by
  refine ⟨a0.length + 1, fun n hn L0 h0 => ?_⟩
  refine raw_foldl (a := a0) (ByteArray.empty, (0, (0, []))) (fun n e => cond (decide (cmpStr e.1 a1 < 0)) (IntKind.wrap .i64 (n + 1)) n) (k := k) (s := 0) (L := fun m i s => L0 m a1 s a0 (a0.length : Int) i) (R := fun i s c => impl_RankOf_L0 k (fun _ s _ _ i => c i s) a1 s a0 (a0.length : Int) i) (fun m i s => h0 m a1 s a0 (a0.length : Int) i) (fun _ _ => True) (fun j s c hj _ => ?_) (fun _ _ _ _ => trivial) (fun s c => ?_) hn trivial
  · have : j < big := by have := l_a0.1; omega
    simp only [impl_RankOf_L0, impl_RankOf_P_L0, lt_nat, inRange_nat, decide_eq_true hj, cond_true, Int.toNat_natCast, wrap_succ this, N.impl_CompareLabels]
    cases decide (cmpStr (a0.getD j (ByteArray.empty, (0, (0, [])))).1 a1 < 0) <;> rfl
  · simp [impl_RankOf_L0, impl_RankOf_P_L0]
def OP_impl_RankOf (f0 : ByteArray → ByteArray → Int) : Orac := (orcX 47 [.val .str, .val .str] (fun d => true) (fun d => [⟨(.int .i64), f0 d.1 d.2.1⟩]) nilO)
def O_impl_RankOf : Orac := OP_impl_RankOf N.impl_CompareLabels
theorem ok_impl_RankOf : OracOk Tryz.prog sigs O_impl_RankOf := (orcX_ok rfl rfl (fun d g => said_impl_CompareLabels d.1 d.2.1) nilO_ok)
def A_impl_RankOf : Ann := fun b => cond (Nat.beq b 0) ⟨[(1, false), (5, false), (8, false), (9, false), (10, false)], []⟩ (⟨[], []⟩)
def S_impl_RankOf_0 (v0_0 : ByteArray) (v0_1 : Int) (v0_2 : (List TEntry)) (v0_3 : Int) (v0_4 : Int) : St := [(kT 1, some (.tv (.v .str v0_0 .no))), (kT 5, some (.tv (.v (.int .i64) v0_1 .no))), (kT 8, some (.tv (.v (.slice 29 TyEntry) v0_2 .no))), (kT 9, some (.tv (.v (.int .i64) v0_3 .no))), (kT 10, some (.tv (.v (.int .i64) v0_4 .no)))]
noncomputable def L_P_impl_RankOf_0 (f0 : ByteArray → ByteArray → Int) (n m : Nat) : St → Option Ret := loopOf tab sigs (OP_impl_RankOf f0) A_impl_RankOf Tryz.f12 [((.int .i64), .no)] n (fun _ => 0) 0 m
theorem bP_impl_RankOf_0 (f0 : ByteArray → ByteArray → Int) (n m : Nat) (v0_0 : ByteArray) (v0_1 : Int) (v0_2 : (List TEntry)) (v0_3 : Int) (v0_4 : Int) : L_P_impl_RankOf_0 f0 n (m + 1) (S_impl_RankOf_0 v0_0 v0_1 v0_2 v0_3 v0_4) = impl_RankOf_P_L0 f0 (fun r0 => some [⟨(.int .i64), r0⟩]) (fun v0_0 v0_1 v0_2 v0_3 v0_4 => L_P_impl_RankOf_0 f0 n m (S_impl_RankOf_0 v0_0 v0_1 v0_2 v0_3 v0_4)) v0_0 v0_1 v0_2 v0_3 v0_4 := by kernel_rfl
theorem aP_impl_RankOf (f0 : ByteArray → ByteArray → Int) (n : Nat) (a0 : (List TEntry)) (a1 : ByteArray) : absF tab sigs (OP_impl_RankOf f0) A_impl_RankOf Tryz.f12 [((.int .i64), .no)] n [.val (.slice 29 TyEntry) a0, .val .str a1] = impl_RankOf_P f0 (fun r0 => some [⟨(.int .i64), r0⟩]) (fun v0_0 v0_1 v0_2 v0_3 v0_4 => L_P_impl_RankOf_0 f0 n n (S_impl_RankOf_0 v0_0 v0_1 v0_2 v0_3 v0_4)) a0 a1 := by kernel_rfl
theorem said_impl_RankOf (a0 : (List TEntry)) (a1 : ByteArray) : Said Tryz.prog sigs_12 12 [.val (.slice 29 TyEntry) a0, .val .str a1] [⟨(.int .i64), N.impl_RankOf a0 a1⟩] := said_len (T := tab) (A := A_impl_RankOf) tabOk ok_impl_RankOf tabOk.follows Tryz.func12 (by kernel_rfl) (by kernel_rfl) (fun hl => let ⟨n, hn⟩ := impl_RankOf_ok (ρ := Ret) (fun r0 => some [⟨(.int .i64), r0⟩]) a0 a1 hl.1; ⟨n, (aP_impl_RankOf N.impl_CompareLabels n a0 a1).trans (hn n (Nat.le_refl n) (fun  m v0_0 v0_1 v0_2 v0_3 v0_4 => L_P_impl_RankOf_0 N.impl_CompareLabels n  m (S_impl_RankOf_0 v0_0 v0_1 v0_2 v0_3 v0_4)) (fun  m v0_0 v0_1 v0_2 v0_3 v0_4 => bP_impl_RankOf_0 N.impl_CompareLabels n  m v0_0 v0_1 v0_2 v0_3 v0_4))⟩)
abbrev G.slices_Clone_string (a : List ByteArray) : Bool := decide (a.length ≤ 1048576)
abbrev N.slices_Clone_string (a : List ByteArray) : List ByteArray := a
noncomputable def slices_Clone_string {ρ : Type} (k : (List ByteArray) → Option ρ) (a0 : (List ByteArray)) : Option ρ := (cond (List.isEmpty a0) (both (k []) (cond (fit (List.length ([] : (List ByteArray))) (List.length a0)) (k (List.append ([] : (List ByteArray)) a0)) none)) (cond (fit (List.length ([] : (List ByteArray))) (List.length a0)) (k (List.append ([] : (List ByteArray)) a0)) none))
theorem slices_Clone_string_ok {ρ : Type} (k : (List ByteArray) → Option ρ) (a0 : (List ByteArray)) (l_a0 : lnL (fun _ => True) a0) (g : G.slices_Clone_string a0 = true) : slices_Clone_string k  a0 = k (N.slices_Clone_string a0) := by
  unfold G.slices_Clone_string at g
  have h1 : fit (List.length ([] : List ByteArray)) (List.length a0) = true := fit_of (by have := of_decide_eq_true g; simp; omega)
  unfold slices_Clone_string
  rw [h1]
  cases a0 with
  | nil => exact both_self _
  | cons x l => rfl
def O_slices_Clone_string : Orac := nilO
theorem ok_slices_Clone_string : OracOk Tryz.prog sigs O_slices_Clone_string := nilO_ok
def A_slices_Clone_string : Ann := fun b => ⟨[], []⟩
theorem a_slices_Clone_string (n : Nat) (a0 : (List ByteArray)) : absF tab sigs O_slices_Clone_string A_slices_Clone_string Tryz.f83 [((.slice 9 .str), (.own 0))] n [.val (.slice 9 .str) a0] = slices_Clone_string (fun r0 => some [⟨(.slice 9 .str), r0⟩])  a0 := by kernel_rfl
theorem said_slices_Clone_string (a0 : (List ByteArray)) (g : G.slices_Clone_string a0 = true) : Said Tryz.prog sigs_83 83 [.val (.slice 9 .str) a0] [⟨(.slice 9 .str), N.slices_Clone_string a0⟩] := said_len (T := tab) (A := A_slices_Clone_string) tabOk ok_slices_Clone_string tabOk.follows Tryz.func83 (by kernel_rfl) (by kernel_rfl) (fun hl => ⟨0, (a_slices_Clone_string 0 a0).trans (slices_Clone_string_ok (ρ := Ret) (fun r0 => some [⟨(.slice 9 .str), r0⟩]) a0 hl.1 g)⟩)
abbrev G.impl_copyEntry (e : TEntry) : Bool := decide (e.2.2.2.length ≤ 1048576)
abbrev N.impl_copyEntry (e : TEntry) : TEntry := e
def impl_copyEntry {ρ : Type} (k : TEntry → Option ρ) (a0 : TEntry) : Option ρ := (cond (G.slices_Clone_string a0.2.2.2) (k (a0.1, (a0.2.1, (a0.2.2.1, (N.slices_Clone_string a0.2.2.2))))) none)
theorem impl_copyEntry_ok {ρ : Type} (k : TEntry → Option ρ) (a0 : TEntry) (l_a0 : (True ∧ (True ∧ (True ∧ lnL (fun _ => True) a0.2.2.2)))) (g : G.impl_copyEntry a0 = true) : impl_copyEntry k  a0 = k (N.impl_copyEntry a0) := by
  unfold G.impl_copyEntry at g
  simp only [impl_copyEntry, G.slices_Clone_string, N.slices_Clone_string, g, cond_true]
def OP_impl_copyEntry (f0 : (List ByteArray) → (List ByteArray)) (g0 : (List ByteArray) → Bool) : Orac := (orcX 83 [.val (.slice 9 .str)] (fun d => g0 d.1) (fun d => [⟨(.slice 9 .str), f0 d.1⟩]) nilO)
def O_impl_copyEntry : Orac := OP_impl_copyEntry N.slices_Clone_string G.slices_Clone_string
def impl_copyEntry_P {ρ : Type} (f0 : (List ByteArray) → (List ByteArray)) (g0 : (List ByteArray) → Bool) (k : TEntry → Option ρ) (a0 : TEntry) : Option ρ := (cond (g0 a0.2.2.2) (k (a0.1, (a0.2.1, (a0.2.2.1, (f0 a0.2.2.2))))) none)
theorem ok_impl_copyEntry : OracOk Tryz.prog sigs O_impl_copyEntry := (orcX_ok rfl rfl (fun d g => said_slices_Clone_string d.1 g) nilO_ok)
def A_impl_copyEntry : Ann := fun b => ⟨[], []⟩
theorem aP_impl_copyEntry (f0 : (List ByteArray) → (List ByteArray)) (g0 : (List ByteArray) → Bool) (n : Nat) (a0 : TEntry) : absF tab sigs (OP_impl_copyEntry f0 g0) A_impl_copyEntry Tryz.f32 [(TyEntry, (.pair .no (.pair .no (.pair .no (.own 0)))))] n [.val TyEntry a0] = impl_copyEntry_P f0 g0 (fun r0 => some [⟨TyEntry, r0⟩])  a0 := by kernel_rfl
theorem said_impl_copyEntry (a0 : TEntry) (g : G.impl_copyEntry a0 = true) : Said Tryz.prog sigs_32 32 [.val TyEntry a0] [⟨TyEntry, N.impl_copyEntry a0⟩] := said_len (T := tab) (A := A_impl_copyEntry) tabOk ok_impl_copyEntry tabOk.follows Tryz.func32 (by kernel_rfl) (by kernel_rfl) (fun hl => ⟨0, (aP_impl_copyEntry N.slices_Clone_string G.slices_Clone_string 0 a0).trans (impl_copyEntry_ok (ρ := Ret) (fun r0 => some [⟨TyEntry, r0⟩]) a0 hl.1 g)⟩)
abbrev G.impl_BytesToInts (b : List Int) : Bool := decide (b.length ≤ 1048577)
abbrev N.impl_BytesToInts (b : List Int) : List Int := bytesInts b
def impl_BytesToInts_L0 {ρ : Type} (k : (List Int) → Option ρ) (L0 : (List Int) → Int → Int → (List Int) → Option ρ) (v0_0 : (List Int)) (v0_1 : Int) (v0_2 : Int) (v0_3 : (List Int)) : Option ρ := (cond (decide (v0_2 < v0_1)) (cond (inRange v0_2 (List.length v0_0)) (cond (fit (List.length v0_3) (List.length [(IntKind.wrap .i64 (List.getD v0_0 (Int.toNat v0_2) (0 : Int)))])) (L0 v0_0 v0_1 (IntKind.wrap .i64 (v0_2 + (1 : Int))) (List.append v0_3 [(IntKind.wrap .i64 (List.getD v0_0 (Int.toNat v0_2) (0 : Int)))])) none) none) (k v0_3))
def impl_BytesToInts {ρ : Type} (k : (List Int) → Option ρ) (L0 : (List Int) → Int → Int → (List Int) → Option ρ) (a0 : (List Int)) : Option ρ := (L0 a0 (List.length a0 : Int) (0 : Int) [(List.length a0 : Int)])
theorem impl_BytesToInts_ok {ρ : Type} (k : (List Int) → Option ρ) (a0 : (List Int)) (l_a0 : lnL (fun _ => True) a0) (g : G.impl_BytesToInts a0 = true) : ∃ n0, ∀ n, n0 ≤ n → ∀ (L0 : Nat → (List Int) → Int → Int → (List Int) → Option ρ) (h0 : ∀ ( m : Nat) (v0_0 : (List Int)) (v0_1 : Int) (v0_2 : Int) (v0_3 : (List Int)), L0 (m + 1) v0_0 v0_1 v0_2 v0_3 = impl_BytesToInts_L0 k (L0 m) v0_0 v0_1 v0_2 v0_3), impl_BytesToInts k (L0 n) a0 = k (N.impl_BytesToInts a0) := by
  unfold G.impl_BytesToInts at g
  have hlen : a0.length ≤ 1048577 := of_decide_eq_true g
  refine ⟨a0.length + 1, fun n hn L0 h0 => ?_⟩
  refine (raw_foldl (a := a0) 0 (fun o x => o ++ [IntKind.wrap .i64 x]) (k := k) (s := [(a0.length : Int)]) (L := fun m i s => L0 m a0 (a0.length : Int) i s) (R := fun i s c => impl_BytesToInts_L0 k (fun _ _ i s => c i s) a0 (a0.length : Int) i s) (fun m i s => h0 m a0 (a0.length : Int) i s) (fun j o => o.length ≤ j + 1) (fun j s c hj hI => ?_) (fun j s hj hI => by simp; exact hI) (fun s c => ?_) hn (by simp)).trans (by rw [foldl_app]; rfl)
  · have : j < big := by unfold big; omega
    have e3 : fit s.length 1 = true := fit_of (by omega)
    simp only [impl_BytesToInts_L0, lt_nat, inRange_nat, decide_eq_true hj, cond_true, Int.toNat_natCast, List.length_singleton, e3, wrap_succ this, List.append_eq]
  · simp [impl_BytesToInts_L0]
def O_impl_BytesToInts : Orac := nilO
theorem ok_impl_BytesToInts : OracOk Tryz.prog sigs O_impl_BytesToInts := nilO_ok
def A_impl_BytesToInts : Ann := fun b => cond (Nat.beq b 0) ⟨[(3, true), (9, false), (10, false), (11, false)], []⟩ (⟨[], []⟩)
def S_impl_BytesToInts_0 (v0_0 : (List Int)) (v0_1 : Int) (v0_2 : Int) (v0_3 : (List Int)) : St := [(kT 3, some (.tv (.v (.slice 3 (.int .i64)) [] (.own 24)))), (kT 9, some (.tv (.v (.slice 5 (.int .u8)) v0_0 .no))), (kT 10, some (.tv (.v (.int .i64) v0_1 .no))), (kT 11, some (.tv (.v (.int .i64) v0_2 .no))), (kR 24, some (.row 3 (.int .i64) v0_3))]
noncomputable def L_impl_BytesToInts_0 (n m : Nat) : St → Option Ret := loopOf tab sigs O_impl_BytesToInts A_impl_BytesToInts Tryz.f171 [((.slice 3 (.int .i64)), (.own 0))] n (fun _ => 0) 0 m
theorem b_impl_BytesToInts_0 (n m : Nat) (v0_0 : (List Int)) (v0_1 : Int) (v0_2 : Int) (v0_3 : (List Int)) : L_impl_BytesToInts_0 n (m + 1) (S_impl_BytesToInts_0 v0_0 v0_1 v0_2 v0_3) = impl_BytesToInts_L0 (fun r0 => some [⟨(.slice 3 (.int .i64)), r0⟩]) (fun v0_0 v0_1 v0_2 v0_3 => L_impl_BytesToInts_0 n m (S_impl_BytesToInts_0 v0_0 v0_1 v0_2 v0_3)) v0_0 v0_1 v0_2 v0_3 := by kernel_rfl
theorem a_impl_BytesToInts (n : Nat) (a0 : (List Int)) : absF tab sigs O_impl_BytesToInts A_impl_BytesToInts Tryz.f171 [((.slice 3 (.int .i64)), (.own 0))] n [.val (.slice 5 (.int .u8)) a0] = impl_BytesToInts (fun r0 => some [⟨(.slice 3 (.int .i64)), r0⟩]) (fun v0_0 v0_1 v0_2 v0_3 => L_impl_BytesToInts_0 n n (S_impl_BytesToInts_0 v0_0 v0_1 v0_2 v0_3)) a0 := by kernel_rfl
theorem said_impl_BytesToInts (a0 : (List Int)) (g : G.impl_BytesToInts a0 = true) : Said Tryz.prog sigs_171 171 [.val (.slice 5 (.int .u8)) a0] [⟨(.slice 3 (.int .i64)), N.impl_BytesToInts a0⟩] := said_len (T := tab) (A := A_impl_BytesToInts) tabOk ok_impl_BytesToInts tabOk.follows Tryz.func171 (by kernel_rfl) (by kernel_rfl) (fun hl => let ⟨n, hn⟩ := impl_BytesToInts_ok (ρ := Ret) (fun r0 => some [⟨(.slice 3 (.int .i64)), r0⟩]) a0 hl.1 g; ⟨n, (a_impl_BytesToInts n a0).trans (hn n (Nat.le_refl n) (fun  m v0_0 v0_1 v0_2 v0_3 => L_impl_BytesToInts_0 n  m (S_impl_BytesToInts_0 v0_0 v0_1 v0_2 v0_3)) (fun  m v0_0 v0_1 v0_2 v0_3 => b_impl_BytesToInts_0 n  m v0_0 v0_1 v0_2 v0_3))⟩)
abbrev G.impl_LabelInts (s : ByteArray) : Bool := decide (s.size ≤ 1048576)
abbrev N.impl_LabelInts (s : ByteArray) : List Int := labelInts s
def impl_LabelInts {ρ : Type} (k : (List Int) → Option ρ) (a0 : ByteArray) : Option ρ := (cond (decide ((ByteArray.size a0 : Int) ≤ 549755813888)) (cond (G.impl_BytesToInts (bytesOf a0)) (k (N.impl_BytesToInts (bytesOf a0))) none) none)
theorem impl_LabelInts_ok {ρ : Type} (k : (List Int) → Option ρ) (a0 : ByteArray) (g : G.impl_LabelInts a0 = true) : impl_LabelInts k  a0 = k (N.impl_LabelInts a0) := by
  unfold G.impl_LabelInts at g
  have h : a0.size ≤ 1048576 := of_decide_eq_true g
  have h1 : decide ((a0.size : Int) ≤ 549755813888) = true := by simp; omega
  have h2 : G.impl_BytesToInts (bytesOf a0) = true := decide_eq_true (by rw [bytesOf_length]; omega)
  show cond _ (cond _ _ none) none = _
  rw [h1, h2]
  rfl
def OP_impl_LabelInts (f0 : (List Int) → (List Int)) (g0 : (List Int) → Bool) : Orac := (orcX 171 [.val (.slice 5 (.int .u8))] (fun d => g0 d.1) (fun d => [⟨(.slice 3 (.int .i64)), f0 d.1⟩]) nilO)
def O_impl_LabelInts : Orac := OP_impl_LabelInts N.impl_BytesToInts G.impl_BytesToInts
def impl_LabelInts_P {ρ : Type} (f0 : (List Int) → (List Int)) (g0 : (List Int) → Bool) (k : (List Int) → Option ρ) (a0 : ByteArray) : Option ρ := (cond (decide ((ByteArray.size a0 : Int) ≤ 549755813888)) (cond (g0 (bytesOf a0)) (k (f0 (bytesOf a0))) none) none)
theorem ok_impl_LabelInts : OracOk Tryz.prog sigs O_impl_LabelInts := (orcX_ok rfl rfl (fun d g => said_impl_BytesToInts d.1 g) nilO_ok)
def A_impl_LabelInts : Ann := fun b => ⟨[], []⟩
theorem aP_impl_LabelInts (f0 : (List Int) → (List Int)) (g0 : (List Int) → Bool) (n : Nat) (a0 : ByteArray) : absF tab sigs (OP_impl_LabelInts f0 g0) A_impl_LabelInts Tryz.f165 [((.slice 3 (.int .i64)), (.own 0))] n [.val .str a0] = impl_LabelInts_P f0 g0 (fun r0 => some [⟨(.slice 3 (.int .i64)), r0⟩])  a0 := by kernel_rfl
theorem said_impl_LabelInts (a0 : ByteArray) (g : G.impl_LabelInts a0 = true) : Said Tryz.prog sigs_165 165 [.val .str a0] [⟨(.slice 3 (.int .i64)), N.impl_LabelInts a0⟩] := said_len (T := tab) (A := A_impl_LabelInts) tabOk ok_impl_LabelInts tabOk.follows Tryz.func165 (by kernel_rfl) (by kernel_rfl) (fun hl => ⟨0, (aP_impl_LabelInts N.impl_BytesToInts G.impl_BytesToInts 0 a0).trans (impl_LabelInts_ok (ρ := Ret) (fun r0 => some [⟨(.slice 3 (.int .i64)), r0⟩]) a0 g)⟩)
abbrev G.impl_EntryInts (e : TEntry) : Bool := decide (wE e ≤ 1048576)
abbrev N.impl_EntryInts (e : TEntry) : List Int := entryInts e
def impl_EntryInts_P_L0 {ρ : Type} (f0 : ByteArray → (List Int)) (g0 : ByteArray → Bool) (k : (List Int) → Option ρ) (L0 : (List ByteArray) → Int → Int → (List Int) → Option ρ) (v0_0 : (List ByteArray)) (v0_1 : Int) (v0_2 : Int) (v0_3 : (List Int)) : Option ρ := (cond (decide (v0_2 < v0_1)) (cond (inRange v0_2 (List.length v0_0)) (cond (g0 (List.getD v0_0 (Int.toNat v0_2) ByteArray.empty)) (cond (fit (List.length v0_3) (List.length (f0 (List.getD v0_0 (Int.toNat v0_2) ByteArray.empty)))) (L0 v0_0 v0_1 (IntKind.wrap .i64 (v0_2 + (1 : Int))) (List.append v0_3 (f0 (List.getD v0_0 (Int.toNat v0_2) ByteArray.empty)))) none) none) none) (k v0_3))
def impl_EntryInts_P {ρ : Type} (f0 : ByteArray → (List Int)) (g0 : ByteArray → Bool) (k : (List Int) → Option ρ) (L0 : (List ByteArray) → Int → Int → (List Int) → Option ρ) (a0 : TEntry) : Option ρ := (cond (g0 a0.1) (cond (fit (List.length (f0 a0.1)) (List.length [a0.2.1, a0.2.2.1, (List.length a0.2.2.2 : Int)])) (L0 a0.2.2.2 (List.length a0.2.2.2 : Int) (0 : Int) (List.append (f0 a0.1) [a0.2.1, a0.2.2.1, (List.length a0.2.2.2 : Int)])) none) none)
def impl_EntryInts_L0 {ρ : Type} (k : (List Int) → Option ρ) (L0 : (List ByteArray) → Int → Int → (List Int) → Option ρ) (v0_0 : (List ByteArray)) (v0_1 : Int) (v0_2 : Int) (v0_3 : (List Int)) : Option ρ := impl_EntryInts_P_L0 N.impl_LabelInts G.impl_LabelInts k L0 v0_0 v0_1 v0_2 v0_3
def impl_EntryInts {ρ : Type} (k : (List Int) → Option ρ) (L0 : (List ByteArray) → Int → Int → (List Int) → Option ρ) (a0 : TEntry) : Option ρ := impl_EntryInts_P N.impl_LabelInts G.impl_LabelInts k L0 a0
theorem impl_EntryInts_ok {ρ : Type} (k : (List Int) → Option ρ) (a0 : TEntry) (l_a0 : (True ∧ (True ∧ (True ∧ lnL (fun _ => True) a0.2.2.2)))) (g : G.impl_EntryInts a0 = true) : ∃ n0, ∀ n, n0 ≤ n → ∀ (L0 : Nat → (List ByteArray) → Int → Int → (List Int) → Option ρ) (h0 : ∀ ( m : Nat) (v0_0 : (List ByteArray)) (v0_1 : Int) (v0_2 : Int) (v0_3 : (List Int)), L0 (m + 1) v0_0 v0_1 v0_2 v0_3 = impl_EntryInts_L0 k (L0 m) v0_0 v0_1 v0_2 v0_3), impl_EntryInts k (L0 n) a0 = k (N.impl_EntryInts a0) := by
  unfold G.impl_EntryInts at g
  have hw : wE a0 ≤ 1048576 := of_decide_eq_true g
  have hw2 : a0.1.size + (a0.2.2.2.length + wsum ByteArray.size a0.2.2.2) ≤ 1048576 := hw
  have g1 : decide (a0.1.size ≤ 1048576) = true := by simp; omega
  have f1 : fit (labelInts a0.1).length 3 = true := fit_of (by rw [labelInts_len]; omega)
  refine ⟨a0.2.2.2.length + 1, fun n hn L0 h0 => ?_⟩
  show cond (decide (a0.1.size ≤ 1048576)) (cond (fit (labelInts a0.1).length 3) (L0 n a0.2.2.2 (a0.2.2.2.length : Int) 0 (labelInts a0.1 ++ [a0.2.1, a0.2.2.1, (a0.2.2.2.length : Int)])) none) none = k (entryInts a0)
  rw [g1, f1]
  have key := raw_run0 (σ := List Int) (L := fun m i s => L0 m a0.2.2.2 (a0.2.2.2.length : Int) i s) (R := fun i s c => impl_EntryInts_L0 k (fun _ _ i s => c i s) a0.2.2.2 (a0.2.2.2.length : Int) i s) (fun m i s => h0 m a0.2.2.2 (a0.2.2.2.length : Int) i s) a0.2.2.2.length (fun j s => s.length + wP (a0.2.2.2.drop j) ≤ 4194304) (fun j s => k (s ++ (a0.2.2.2.drop j).flatMap labelInts)) (fun j s c hj hI hc => ?_) (fun s c _ => ?_) hn (s := labelInts a0.1 ++ [a0.2.1, a0.2.2.1, (a0.2.2.2.length : Int)]) (by rw [List.drop_zero, List.length_append, labelInts_len]; unfold wP; simp; omega)
  · rw [List.drop_zero] at key
    exact key
  · have hd := drop_cons ByteArray.empty hj
    have hp : wP (a0.2.2.2.drop j) = 1 + (a0.2.2.2.getD j ByteArray.empty).size + wP (a0.2.2.2.drop (j + 1)) := by
      rw [hd]
      unfold wP
      rw [List.length_cons]
      show _ + (_ + _) = _
      omega
    have hm := wsum_mem (wt := ByteArray.size) (getD_mem (d := ByteArray.empty) hj)
    have g2 : decide ((a0.2.2.2.getD j ByteArray.empty).size ≤ 1048576) = true := by simp only [decide_eq_true_eq]; omega
    have e3 : fit s.length (labelInts (a0.2.2.2.getD j ByteArray.empty)).length = true := fit_of (by rw [labelInts_len]; omega)
    have := hc (s ++ labelInts (a0.2.2.2.getD j ByteArray.empty)) (by rw [List.length_append, labelInts_len]; omega)
    simp only [impl_EntryInts_L0, impl_EntryInts_P_L0, lt_nat, inRange_nat, decide_eq_true hj, cond_true, Int.toNat_natCast, G.impl_LabelInts, N.impl_LabelInts, g2, e3, wrap_succ (j := j) (by unfold big; omega), List.append_eq, this]
    rw [hd]
    simp
  · simp [impl_EntryInts_L0, impl_EntryInts_P_L0]
def OP_impl_EntryInts (f0 : ByteArray → (List Int)) (g0 : ByteArray → Bool) : Orac := (orcX 165 [.val .str] (fun d => g0 d.1) (fun d => [⟨(.slice 3 (.int .i64)), f0 d.1⟩]) nilO)
def O_impl_EntryInts : Orac := OP_impl_EntryInts N.impl_LabelInts G.impl_LabelInts
theorem ok_impl_EntryInts : OracOk Tryz.prog sigs O_impl_EntryInts := (orcX_ok rfl rfl (fun d g => said_impl_LabelInts d.1 g) nilO_ok)
def A_impl_EntryInts : Ann := fun b => cond (Nat.beq b 0) ⟨[(3, true), (19, false), (20, false), (21, false)], []⟩ (⟨[], []⟩)
def S_impl_EntryInts_0 (v0_0 : (List ByteArray)) (v0_1 : Int) (v0_2 : Int) (v0_3 : (List Int)) : St := [(kT 3, some (.tv (.v (.slice 3 (.int .i64)) [] (.own 24)))), (kT 19, some (.tv (.v (.slice 9 .str) v0_0 .no))), (kT 20, some (.tv (.v (.int .i64) v0_1 .no))), (kT 21, some (.tv (.v (.int .i64) v0_2 .no))), (kR 24, some (.row 3 (.int .i64) v0_3))]
noncomputable def L_P_impl_EntryInts_0 (f0 : ByteArray → (List Int)) (g0 : ByteArray → Bool) (n m : Nat) : St → Option Ret := loopOf tab sigs (OP_impl_EntryInts f0 g0) A_impl_EntryInts Tryz.f141 [((.slice 3 (.int .i64)), (.own 0))] n (fun _ => 0) 0 m
theorem bP_impl_EntryInts_0 (f0 : ByteArray → (List Int)) (g0 : ByteArray → Bool) (n m : Nat) (v0_0 : (List ByteArray)) (v0_1 : Int) (v0_2 : Int) (v0_3 : (List Int)) : L_P_impl_EntryInts_0 f0 g0 n (m + 1) (S_impl_EntryInts_0 v0_0 v0_1 v0_2 v0_3) = impl_EntryInts_P_L0 f0 g0 (fun r0 => some [⟨(.slice 3 (.int .i64)), r0⟩]) (fun v0_0 v0_1 v0_2 v0_3 => L_P_impl_EntryInts_0 f0 g0 n m (S_impl_EntryInts_0 v0_0 v0_1 v0_2 v0_3)) v0_0 v0_1 v0_2 v0_3 := by kernel_rfl
theorem aP_impl_EntryInts (f0 : ByteArray → (List Int)) (g0 : ByteArray → Bool) (n : Nat) (a0 : TEntry) : absF tab sigs (OP_impl_EntryInts f0 g0) A_impl_EntryInts Tryz.f141 [((.slice 3 (.int .i64)), (.own 0))] n [.val TyEntry a0] = impl_EntryInts_P f0 g0 (fun r0 => some [⟨(.slice 3 (.int .i64)), r0⟩]) (fun v0_0 v0_1 v0_2 v0_3 => L_P_impl_EntryInts_0 f0 g0 n n (S_impl_EntryInts_0 v0_0 v0_1 v0_2 v0_3)) a0 := by kernel_rfl
theorem said_impl_EntryInts (a0 : TEntry) (g : G.impl_EntryInts a0 = true) : Said Tryz.prog sigs_141 141 [.val TyEntry a0] [⟨(.slice 3 (.int .i64)), N.impl_EntryInts a0⟩] := said_len (T := tab) (A := A_impl_EntryInts) tabOk ok_impl_EntryInts tabOk.follows Tryz.func141 (by kernel_rfl) (by kernel_rfl) (fun hl => let ⟨n, hn⟩ := impl_EntryInts_ok (ρ := Ret) (fun r0 => some [⟨(.slice 3 (.int .i64)), r0⟩]) a0 hl.1 g; ⟨n, (aP_impl_EntryInts N.impl_LabelInts G.impl_LabelInts n a0).trans (hn n (Nat.le_refl n) (fun  m v0_0 v0_1 v0_2 v0_3 => L_P_impl_EntryInts_0 N.impl_LabelInts G.impl_LabelInts n  m (S_impl_EntryInts_0 v0_0 v0_1 v0_2 v0_3)) (fun  m v0_0 v0_1 v0_2 v0_3 => bP_impl_EntryInts_0 N.impl_LabelInts G.impl_LabelInts n  m v0_0 v0_1 v0_2 v0_3))⟩)
abbrev N.impl_Mod (n m : Int) : Int := modM n m
def impl_Mod {ρ : Type} (k : Int → Option ρ) (a0 : Int) (a1 : Int) : Option ρ := (cond (!(N.impl_InRange a1 (1 : Int) (1000000000000 : Int))) (k (0 : Int)) (cond (!(decide (a1 = 0))) (cond (!(decide (a1 = 0))) (k (Int.tmod (IntKind.wrap .i64 ((Int.tmod a0 a1) + a1)) a1)) none) none))
theorem impl_Mod_ok {ρ : Type} (k : Int → Option ρ) (a0 : Int) (a1 : Int) : impl_Mod k  a0 a1 = k (N.impl_Mod a0 a1) := by
  simp only [impl_Mod, N.impl_InRange, modM]
  cases h : inR a1 1 1000000000000
  · rfl
  · have h1 : 1 ≤ a1 := by
      unfold inR at h
      simp only [Bool.and_eq_true, decide_eq_true_eq] at h
      exact h.1
    have h2 : decide (a1 = 0) = false := by simp; omega
    simp [h2]
def OP_impl_Mod (f0 : Int → Int → Int → Bool) : Orac := (orcX 45 [.val (.int .i64), .val (.int .i64), .val (.int .i64)] (fun d => true) (fun d => [⟨.bool, f0 d.1 d.2.1 d.2.2.1⟩]) nilO)
def O_impl_Mod : Orac := OP_impl_Mod N.impl_InRange
def impl_Mod_P {ρ : Type} (f0 : Int → Int → Int → Bool) (k : Int → Option ρ) (a0 : Int) (a1 : Int) : Option ρ := (cond (!(f0 a1 (1 : Int) (1000000000000 : Int))) (k (0 : Int)) (cond (!(decide (a1 = 0))) (cond (!(decide (a1 = 0))) (k (Int.tmod (IntKind.wrap .i64 ((Int.tmod a0 a1) + a1)) a1)) none) none))
theorem ok_impl_Mod : OracOk Tryz.prog sigs O_impl_Mod := (orcX_ok rfl rfl (fun d g => said_impl_InRange d.1 d.2.1 d.2.2.1) nilO_ok)
def A_impl_Mod : Ann := fun b => ⟨[], []⟩
theorem aP_impl_Mod (f0 : Int → Int → Int → Bool) (n : Nat) (a0 : Int) (a1 : Int) : absF tab sigs (OP_impl_Mod f0) A_impl_Mod Tryz.f127 [((.int .i64), .no)] n [.val (.int .i64) a0, .val (.int .i64) a1] = impl_Mod_P f0 (fun r0 => some [⟨(.int .i64), r0⟩])  a0 a1 := by kernel_rfl
theorem said_impl_Mod (a0 : Int) (a1 : Int) : Said Tryz.prog sigs_127 127 [.val (.int .i64) a0, .val (.int .i64) a1] [⟨(.int .i64), N.impl_Mod a0 a1⟩] := said_len (T := tab) (A := A_impl_Mod) tabOk ok_impl_Mod tabOk.follows Tryz.func127 (by kernel_rfl) (by kernel_rfl) (fun hl => ⟨0, (aP_impl_Mod N.impl_InRange 0 a0 a1).trans (impl_Mod_ok (ρ := Ret) (fun r0 => some [⟨(.int .i64), r0⟩]) a0 a1)⟩)
abbrev N.impl_Hash (l : List Int) : Int := hash l
def impl_Hash_P_L0 {ρ : Type} (f0 : Int → Int → Int) (k : Int → Option ρ) (L0 : Int → (List Int) → Int → Int → Option ρ) (v0_0 : Int) (v0_1 : (List Int)) (v0_2 : Int) (v0_3 : Int) : Option ρ := (cond (decide (v0_3 < v0_2)) (cond (inRange v0_3 (List.length v0_1)) (L0 (Int.tmod (IntKind.wrap .i64 ((IntKind.wrap .i64 ((IntKind.wrap .i64 (v0_0 * (1000003 : Int))) + (f0 (List.getD v0_1 (Int.toNat v0_3) (0 : Int)) (2147483647 : Int)))) + (13 : Int))) (2147483647 : Int)) v0_1 v0_2 (IntKind.wrap .i64 (v0_3 + (1 : Int)))) none) (k v0_0))
def impl_Hash_P {ρ : Type} (f0 : Int → Int → Int) (k : Int → Option ρ) (L0 : Int → (List Int) → Int → Int → Option ρ) (a0 : (List Int)) : Option ρ := (L0 (11 : Int) a0 (List.length a0 : Int) (0 : Int))
def impl_Hash_L0 {ρ : Type} (k : Int → Option ρ) (L0 : Int → (List Int) → Int → Int → Option ρ) (v0_0 : Int) (v0_1 : (List Int)) (v0_2 : Int) (v0_3 : Int) : Option ρ := impl_Hash_P_L0 N.impl_Mod k L0 v0_0 v0_1 v0_2 v0_3
def impl_Hash {ρ : Type} (k : Int → Option ρ) (L0 : Int → (List Int) → Int → Int → Option ρ) (a0 : (List Int)) : Option ρ := impl_Hash_P N.impl_Mod k L0 a0
theorem impl_Hash_ok {ρ : Type} (k : Int → Option ρ) (a0 : (List Int)) (l_a0 : lnL (fun _ => True) a0) : ∃ n0, ∀ n, n0 ≤ n → ∀ (L0 : Nat → Int → (List Int) → Int → Int → Option ρ) (h0 : ∀ ( m : Nat) (v0_0 : Int) (v0_1 : (List Int)) (v0_2 : Int) (v0_3 : Int), L0 (m + 1) v0_0 v0_1 v0_2 v0_3 = impl_Hash_L0 k (L0 m) v0_0 v0_1 v0_2 v0_3), impl_Hash k (L0 n) a0 = k (N.impl_Hash a0) := by
  refine ⟨a0.length + 1, fun n hn L0 h0 => ?_⟩
  refine raw_foldl (a := a0) 0 hashStep (k := k) (L := fun m i s => L0 m s a0 (a0.length : Int) i) (R := fun i s c => impl_Hash_L0 k (fun s _ _ i => c i s) s a0 (a0.length : Int) i) (fun m i s => h0 m s a0 (a0.length : Int) i) (fun _ _ => True) (fun j s c hj _ => ?_) (fun _ _ _ _ => trivial) (fun s c => ?_) hn trivial
  · have : j < big := by have := l_a0.1; omega
    simp [impl_Hash_L0, impl_Hash_P_L0, lt_nat, inRange_nat, hj, wrap_succ this, hashStep]
  · simp [impl_Hash_L0, impl_Hash_P_L0]
def OP_impl_Hash (f0 : Int → Int → Int) : Orac := (orcX 127 [.val (.int .i64), .val (.int .i64)] (fun d => true) (fun d => [⟨(.int .i64), f0 d.1 d.2.1⟩]) nilO)
def O_impl_Hash : Orac := OP_impl_Hash N.impl_Mod
theorem ok_impl_Hash : OracOk Tryz.prog sigs O_impl_Hash := (orcX_ok rfl rfl (fun d g => said_impl_Mod d.1 d.2.1) nilO_ok)
def A_impl_Hash : Ann := fun b => cond (Nat.beq b 0) ⟨[(3, false), (6, false), (7, false), (8, false)], []⟩ (⟨[], []⟩)
def S_impl_Hash_0 (v0_0 : Int) (v0_1 : (List Int)) (v0_2 : Int) (v0_3 : Int) : St := [(kT 3, some (.tv (.v (.int .i64) v0_0 .no))), (kT 6, some (.tv (.v (.slice 3 (.int .i64)) v0_1 .no))), (kT 7, some (.tv (.v (.int .i64) v0_2 .no))), (kT 8, some (.tv (.v (.int .i64) v0_3 .no)))]
noncomputable def L_P_impl_Hash_0 (f0 : Int → Int → Int) (n m : Nat) : St → Option Ret := loopOf tab sigs (OP_impl_Hash f0) A_impl_Hash Tryz.f71 [((.int .i64), .no)] n (fun _ => 0) 0 m
theorem bP_impl_Hash_0 (f0 : Int → Int → Int) (n m : Nat) (v0_0 : Int) (v0_1 : (List Int)) (v0_2 : Int) (v0_3 : Int) : L_P_impl_Hash_0 f0 n (m + 1) (S_impl_Hash_0 v0_0 v0_1 v0_2 v0_3) = impl_Hash_P_L0 f0 (fun r0 => some [⟨(.int .i64), r0⟩]) (fun v0_0 v0_1 v0_2 v0_3 => L_P_impl_Hash_0 f0 n m (S_impl_Hash_0 v0_0 v0_1 v0_2 v0_3)) v0_0 v0_1 v0_2 v0_3 := by kernel_rfl
theorem aP_impl_Hash (f0 : Int → Int → Int) (n : Nat) (a0 : (List Int)) : absF tab sigs (OP_impl_Hash f0) A_impl_Hash Tryz.f71 [((.int .i64), .no)] n [.val (.slice 3 (.int .i64)) a0] = impl_Hash_P f0 (fun r0 => some [⟨(.int .i64), r0⟩]) (fun v0_0 v0_1 v0_2 v0_3 => L_P_impl_Hash_0 f0 n n (S_impl_Hash_0 v0_0 v0_1 v0_2 v0_3)) a0 := by kernel_rfl
theorem said_impl_Hash (a0 : (List Int)) : Said Tryz.prog sigs_71 71 [.val (.slice 3 (.int .i64)) a0] [⟨(.int .i64), N.impl_Hash a0⟩] := said_len (T := tab) (A := A_impl_Hash) tabOk ok_impl_Hash tabOk.follows Tryz.func71 (by kernel_rfl) (by kernel_rfl) (fun hl => let ⟨n, hn⟩ := impl_Hash_ok (ρ := Ret) (fun r0 => some [⟨(.int .i64), r0⟩]) a0 hl.1; ⟨n, (aP_impl_Hash N.impl_Mod n a0).trans (hn n (Nat.le_refl n) (fun  m v0_0 v0_1 v0_2 v0_3 => L_P_impl_Hash_0 N.impl_Mod n  m (S_impl_Hash_0 v0_0 v0_1 v0_2 v0_3)) (fun  m v0_0 v0_1 v0_2 v0_3 => bP_impl_Hash_0 N.impl_Mod n  m v0_0 v0_1 v0_2 v0_3))⟩)
abbrev G.impl_LeafOf (e : TEntry) : Bool := decide (wE e ≤ 1048576)
abbrev N.impl_LeafOf (e : TEntry) : Int := leafOf e
def impl_LeafOf {ρ : Type} (k : Int → Option ρ) (a0 : TEntry) : Option ρ := (cond (G.impl_EntryInts a0) (cond (fit (List.length [(227 : Int)]) (List.length (N.impl_EntryInts a0))) (k (N.impl_Hash (List.append [(227 : Int)] (N.impl_EntryInts a0)))) none) none)
theorem impl_LeafOf_ok {ρ : Type} (k : Int → Option ρ) (a0 : TEntry) (l_a0 : (True ∧ (True ∧ (True ∧ lnL (fun _ => True) a0.2.2.2)))) (g : G.impl_LeafOf a0 = true) : impl_LeafOf k  a0 = k (N.impl_LeafOf a0) := by
  unfold G.impl_LeafOf at g
  have hw : wE a0 ≤ 1048576 := of_decide_eq_true g
  have f1 : fit 1 (entryInts a0).length = true := fit_of (by rw [entryInts_len]; omega)
  show cond (decide (wE a0 ≤ 1048576)) (cond (fit 1 (entryInts a0).length) _ none) none = _
  rw [g, f1]
  rfl
def OP_impl_LeafOf (f0 : TEntry → (List Int)) (g0 : TEntry → Bool) (f1 : (List Int) → Int) : Orac := (orcX 71 [.val (.slice 3 (.int .i64))] (fun d => true) (fun d => [⟨(.int .i64), f1 d.1⟩]) (orcX 141 [.val TyEntry] (fun d => g0 d.1) (fun d => [⟨(.slice 3 (.int .i64)), f0 d.1⟩]) nilO))
def O_impl_LeafOf : Orac := OP_impl_LeafOf N.impl_EntryInts G.impl_EntryInts N.impl_Hash
def impl_LeafOf_P {ρ : Type} (f0 : TEntry → (List Int)) (g0 : TEntry → Bool) (f1 : (List Int) → Int) (k : Int → Option ρ) (a0 : TEntry) : Option ρ := (cond (g0 a0) (cond (fit (List.length [(227 : Int)]) (List.length (f0 a0))) (k (f1 (List.append [(227 : Int)] (f0 a0)))) none) none)
theorem ok_impl_LeafOf : OracOk Tryz.prog sigs O_impl_LeafOf := (orcX_ok rfl rfl (fun d g => said_impl_Hash d.1) (orcX_ok rfl rfl (fun d g => said_impl_EntryInts d.1 g) nilO_ok))
def A_impl_LeafOf : Ann := fun b => ⟨[], []⟩
theorem aP_impl_LeafOf (f0 : TEntry → (List Int)) (g0 : TEntry → Bool) (f1 : (List Int) → Int) (n : Nat) (a0 : TEntry) : absF tab sigs (OP_impl_LeafOf f0 g0 f1) A_impl_LeafOf Tryz.f93 [((.int .i64), .no)] n [.val TyEntry a0] = impl_LeafOf_P f0 g0 f1 (fun r0 => some [⟨(.int .i64), r0⟩])  a0 := by kernel_rfl
theorem said_impl_LeafOf (a0 : TEntry) (g : G.impl_LeafOf a0 = true) : Said Tryz.prog sigs_93 93 [.val TyEntry a0] [⟨(.int .i64), N.impl_LeafOf a0⟩] := said_len (T := tab) (A := A_impl_LeafOf) tabOk ok_impl_LeafOf tabOk.follows Tryz.func93 (by kernel_rfl) (by kernel_rfl) (fun hl => ⟨0, (aP_impl_LeafOf N.impl_EntryInts G.impl_EntryInts N.impl_Hash 0 a0).trans (impl_LeafOf_ok (ρ := Ret) (fun r0 => some [⟨(.int .i64), r0⟩]) a0 hl.1 g)⟩)
abbrev G.impl_LeavesOf (l : List TEntry) : Bool := decide (wEs l ≤ 1048576)
abbrev N.impl_LeavesOf (l : List TEntry) : List Int := l.map leafOf
def impl_LeavesOf_P_L0 {ρ : Type} (f0 : TEntry → Int) (g0 : TEntry → Bool) (k : (List Int) → Option ρ) (L0 : (List TEntry) → Int → Int → (List Int) → Option ρ) (v0_0 : (List TEntry)) (v0_1 : Int) (v0_2 : Int) (v0_3 : (List Int)) : Option ρ := (cond (decide (v0_2 < v0_1)) (cond (inRange v0_2 (List.length v0_0)) (cond (g0 (List.getD v0_0 (Int.toNat v0_2) (ByteArray.empty, ((0 : Int), ((0 : Int), []))))) (cond (fit (List.length v0_3) (List.length [(f0 (List.getD v0_0 (Int.toNat v0_2) (ByteArray.empty, ((0 : Int), ((0 : Int), [])))))])) (L0 v0_0 v0_1 (IntKind.wrap .i64 (v0_2 + (1 : Int))) (List.append v0_3 [(f0 (List.getD v0_0 (Int.toNat v0_2) (ByteArray.empty, ((0 : Int), ((0 : Int), [])))))])) none) none) none) (k v0_3))
def impl_LeavesOf_P {ρ : Type} (f0 : TEntry → Int) (g0 : TEntry → Bool) (k : (List Int) → Option ρ) (L0 : (List TEntry) → Int → Int → (List Int) → Option ρ) (a0 : (List TEntry)) : Option ρ := (L0 a0 (List.length a0 : Int) (0 : Int) ([] : (List Int)))
def impl_LeavesOf_L0 {ρ : Type} (k : (List Int) → Option ρ) (L0 : (List TEntry) → Int → Int → (List Int) → Option ρ) (v0_0 : (List TEntry)) (v0_1 : Int) (v0_2 : Int) (v0_3 : (List Int)) : Option ρ := impl_LeavesOf_P_L0 N.impl_LeafOf G.impl_LeafOf k L0 v0_0 v0_1 v0_2 v0_3
def impl_LeavesOf {ρ : Type} (k : (List Int) → Option ρ) (L0 : (List TEntry) → Int → Int → (List Int) → Option ρ) (a0 : (List TEntry)) : Option ρ := impl_LeavesOf_P N.impl_LeafOf G.impl_LeafOf k L0 a0
theorem impl_LeavesOf_ok {ρ : Type} (k : (List Int) → Option ρ) (a0 : (List TEntry)) (l_a0 : lnL (fun y => (True ∧ (True ∧ (True ∧ lnL (fun _ => True) y.2.2.2)))) a0) (g : G.impl_LeavesOf a0 = true) : ∃ n0, ∀ n, n0 ≤ n → ∀ (L0 : Nat → (List TEntry) → Int → Int → (List Int) → Option ρ) (h0 : ∀ ( m : Nat) (v0_0 : (List TEntry)) (v0_1 : Int) (v0_2 : Int) (v0_3 : (List Int)), L0 (m + 1) v0_0 v0_1 v0_2 v0_3 = impl_LeavesOf_L0 k (L0 m) v0_0 v0_1 v0_2 v0_3), impl_LeavesOf k (L0 n) a0 = k (N.impl_LeavesOf a0) := by
  unfold G.impl_LeavesOf at g
  have hw : wEs a0 ≤ 1048576 := of_decide_eq_true g
  have hl : a0.length ≤ 1048576 := by unfold wEs at hw; omega
  refine ⟨a0.length + 1, fun n hn L0 h0 => ?_⟩
  refine raw_map (a := a0) (ByteArray.empty, (0, (0, []))) leafOf 1048576 (k := k) (L := fun m i out => L0 m a0 (a0.length : Int) i out) (R := fun i out c => impl_LeavesOf_L0 k (fun _ _ i out => c i out) a0 (a0.length : Int) i out) (fun m i s => h0 m a0 (a0.length : Int) i s) (fun j out c hj ho => ?_) (fun out c => ?_) hl hn
  · have hm := wEs_mem (getD_mem (d := (ByteArray.empty, (0, (0, [])))) hj)
    have g2 : decide (wE (a0.getD j (ByteArray.empty, (0, (0, [])))) ≤ 1048576) = true := by simp only [decide_eq_true_eq]; omega
    have e3 : fit out.length 1 = true := fit_of (by omega)
    simp only [impl_LeavesOf_L0, impl_LeavesOf_P_L0, lt_nat, inRange_nat, decide_eq_true hj, cond_true, Int.toNat_natCast, G.impl_LeafOf, g2, List.length_singleton, e3, wrap_succ (j := j) (by unfold big; omega), List.append_eq]
  · simp [impl_LeavesOf_L0, impl_LeavesOf_P_L0]
def OP_impl_LeavesOf (f0 : TEntry → Int) (g0 : TEntry → Bool) : Orac := (orcX 93 [.val TyEntry] (fun d => g0 d.1) (fun d => [⟨(.int .i64), f0 d.1⟩]) nilO)
def O_impl_LeavesOf : Orac := OP_impl_LeavesOf N.impl_LeafOf G.impl_LeafOf
theorem ok_impl_LeavesOf : OracOk Tryz.prog sigs O_impl_LeavesOf := (orcX_ok rfl rfl (fun d g => said_impl_LeafOf d.1 g) nilO_ok)
def A_impl_LeavesOf : Ann := fun b => cond (Nat.beq b 0) ⟨[(3, true), (7, false), (8, false), (9, false)], []⟩ (⟨[], []⟩)
def S_impl_LeavesOf_0 (v0_0 : (List TEntry)) (v0_1 : Int) (v0_2 : Int) (v0_3 : (List Int)) : St := [(kT 3, some (.tv (.v (.slice 3 (.int .i64)) [] (.own 24)))), (kT 7, some (.tv (.v (.slice 29 TyEntry) v0_0 .no))), (kT 8, some (.tv (.v (.int .i64) v0_1 .no))), (kT 9, some (.tv (.v (.int .i64) v0_2 .no))), (kR 24, some (.row 3 (.int .i64) v0_3))]
noncomputable def L_P_impl_LeavesOf_0 (f0 : TEntry → Int) (g0 : TEntry → Bool) (n m : Nat) : St → Option Ret := loopOf tab sigs (OP_impl_LeavesOf f0 g0) A_impl_LeavesOf Tryz.f44 [((.slice 3 (.int .i64)), (.own 0))] n (fun _ => 0) 0 m
theorem bP_impl_LeavesOf_0 (f0 : TEntry → Int) (g0 : TEntry → Bool) (n m : Nat) (v0_0 : (List TEntry)) (v0_1 : Int) (v0_2 : Int) (v0_3 : (List Int)) : L_P_impl_LeavesOf_0 f0 g0 n (m + 1) (S_impl_LeavesOf_0 v0_0 v0_1 v0_2 v0_3) = impl_LeavesOf_P_L0 f0 g0 (fun r0 => some [⟨(.slice 3 (.int .i64)), r0⟩]) (fun v0_0 v0_1 v0_2 v0_3 => L_P_impl_LeavesOf_0 f0 g0 n m (S_impl_LeavesOf_0 v0_0 v0_1 v0_2 v0_3)) v0_0 v0_1 v0_2 v0_3 := by kernel_rfl
theorem aP_impl_LeavesOf (f0 : TEntry → Int) (g0 : TEntry → Bool) (n : Nat) (a0 : (List TEntry)) : absF tab sigs (OP_impl_LeavesOf f0 g0) A_impl_LeavesOf Tryz.f44 [((.slice 3 (.int .i64)), (.own 0))] n [.val (.slice 29 TyEntry) a0] = impl_LeavesOf_P f0 g0 (fun r0 => some [⟨(.slice 3 (.int .i64)), r0⟩]) (fun v0_0 v0_1 v0_2 v0_3 => L_P_impl_LeavesOf_0 f0 g0 n n (S_impl_LeavesOf_0 v0_0 v0_1 v0_2 v0_3)) a0 := by kernel_rfl
theorem said_impl_LeavesOf (a0 : (List TEntry)) (g : G.impl_LeavesOf a0 = true) : Said Tryz.prog sigs_44 44 [.val (.slice 29 TyEntry) a0] [⟨(.slice 3 (.int .i64)), N.impl_LeavesOf a0⟩] := said_len (T := tab) (A := A_impl_LeavesOf) tabOk ok_impl_LeavesOf tabOk.follows Tryz.func44 (by kernel_rfl) (by kernel_rfl) (fun hl => let ⟨n, hn⟩ := impl_LeavesOf_ok (ρ := Ret) (fun r0 => some [⟨(.slice 3 (.int .i64)), r0⟩]) a0 hl.1 g; ⟨n, (aP_impl_LeavesOf N.impl_LeafOf G.impl_LeafOf n a0).trans (hn n (Nat.le_refl n) (fun  m v0_0 v0_1 v0_2 v0_3 => L_P_impl_LeavesOf_0 N.impl_LeafOf G.impl_LeafOf n  m (S_impl_LeavesOf_0 v0_0 v0_1 v0_2 v0_3)) (fun  m v0_0 v0_1 v0_2 v0_3 => bP_impl_LeavesOf_0 N.impl_LeafOf G.impl_LeafOf n  m v0_0 v0_1 v0_2 v0_3))⟩)
abbrev N.spec_Mod (n m : Int) : Int := modM n m
def spec_Mod {ρ : Type} (k : Int → Option ρ) (a0 : Int) (a1 : Int) : Option ρ := (cond (!(N.spec_l1In a1 (1 : Int) (1000000000000 : Int))) (k (0 : Int)) (cond (!(decide (a1 = 0))) (cond (!(decide (a1 = 0))) (k (Int.tmod (IntKind.wrap .i64 ((Int.tmod a0 a1) + a1)) a1)) none) none))
theorem spec_Mod_ok {ρ : Type} (k : Int → Option ρ) (a0 : Int) (a1 : Int) : spec_Mod k  a0 a1 = k (N.spec_Mod a0 a1) := by
  simp only [spec_Mod, N.spec_l1In, modM]
  cases h : inR a1 1 1000000000000
  · rfl
  · have h1 : 1 ≤ a1 := by
      unfold inR at h
      simp only [Bool.and_eq_true, decide_eq_true_eq] at h
      exact h.1
    have h2 : decide (a1 = 0) = false := by simp; omega
    simp [h2]
def OP_spec_Mod (f0 : Int → Int → Int → Bool) : Orac := (orcX 54 [.val (.int .i64), .val (.int .i64), .val (.int .i64)] (fun d => true) (fun d => [⟨.bool, f0 d.1 d.2.1 d.2.2.1⟩]) nilO)
def O_spec_Mod : Orac := OP_spec_Mod N.spec_l1In
def spec_Mod_P {ρ : Type} (f0 : Int → Int → Int → Bool) (k : Int → Option ρ) (a0 : Int) (a1 : Int) : Option ρ := (cond (!(f0 a1 (1 : Int) (1000000000000 : Int))) (k (0 : Int)) (cond (!(decide (a1 = 0))) (cond (!(decide (a1 = 0))) (k (Int.tmod (IntKind.wrap .i64 ((Int.tmod a0 a1) + a1)) a1)) none) none))
theorem ok_spec_Mod : OracOk Tryz.prog sigs O_spec_Mod := (orcX_ok rfl rfl (fun d g => said_spec_l1In d.1 d.2.1 d.2.2.1) nilO_ok)
def A_spec_Mod : Ann := fun b => ⟨[], []⟩
theorem aP_spec_Mod (f0 : Int → Int → Int → Bool) (n : Nat) (a0 : Int) (a1 : Int) : absF tab sigs (OP_spec_Mod f0) A_spec_Mod Tryz.f136 [((.int .i64), .no)] n [.val (.int .i64) a0, .val (.int .i64) a1] = spec_Mod_P f0 (fun r0 => some [⟨(.int .i64), r0⟩])  a0 a1 := by kernel_rfl
theorem said_spec_Mod (a0 : Int) (a1 : Int) : Said Tryz.prog sigs_136 136 [.val (.int .i64) a0, .val (.int .i64) a1] [⟨(.int .i64), N.spec_Mod a0 a1⟩] := said_len (T := tab) (A := A_spec_Mod) tabOk ok_spec_Mod tabOk.follows Tryz.func136 (by kernel_rfl) (by kernel_rfl) (fun hl => ⟨0, (aP_spec_Mod N.spec_l1In 0 a0 a1).trans (spec_Mod_ok (ρ := Ret) (fun r0 => some [⟨(.int .i64), r0⟩]) a0 a1)⟩)
abbrev N.spec_Hash (l : List Int) : Int := hash l
def spec_Hash_P_L0 {ρ : Type} (f0 : Int → Int → Int) (k : Int → Option ρ) (L0 : (List Int) → Int → Int → Option ρ) (v0_0 : (List Int)) (v0_1 : Int) (v0_2 : Int) : Option ρ := (cond (decide (v0_2 < (List.length v0_0 : Int))) (cond (inRange v0_2 (List.length v0_0)) (L0 v0_0 (Int.tmod (IntKind.wrap .i64 ((IntKind.wrap .i64 ((IntKind.wrap .i64 (v0_1 * (1000003 : Int))) + (f0 (List.getD v0_0 (Int.toNat v0_2) (0 : Int)) (2147483647 : Int)))) + (13 : Int))) (2147483647 : Int)) (IntKind.wrap .i64 (v0_2 + (1 : Int)))) none) (k v0_1))
def spec_Hash_P {ρ : Type} (f0 : Int → Int → Int) (k : Int → Option ρ) (L0 : (List Int) → Int → Int → Option ρ) (a0 : (List Int)) : Option ρ := (L0 a0 (11 : Int) (0 : Int))
def spec_Hash_L0 {ρ : Type} (k : Int → Option ρ) (L0 : (List Int) → Int → Int → Option ρ) (v0_0 : (List Int)) (v0_1 : Int) (v0_2 : Int) : Option ρ := spec_Hash_P_L0 N.spec_Mod k L0 v0_0 v0_1 v0_2
def spec_Hash {ρ : Type} (k : Int → Option ρ) (L0 : (List Int) → Int → Int → Option ρ) (a0 : (List Int)) : Option ρ := spec_Hash_P N.spec_Mod k L0 a0
theorem spec_Hash_ok {ρ : Type} (k : Int → Option ρ) (a0 : (List Int)) (l_a0 : lnL (fun _ => True) a0) : ∃ n0, ∀ n, n0 ≤ n → ∀ (L0 : Nat → (List Int) → Int → Int → Option ρ) (h0 : ∀ ( m : Nat) (v0_0 : (List Int)) (v0_1 : Int) (v0_2 : Int), L0 (m + 1) v0_0 v0_1 v0_2 = spec_Hash_L0 k (L0 m) v0_0 v0_1 v0_2), spec_Hash k (L0 n) a0 = k (N.spec_Hash a0) := by
  refine ⟨a0.length + 1, fun n hn L0 h0 => ?_⟩
  refine raw_foldl (a := a0) 0 hashStep (k := k) (L := fun m i s => L0 m a0 s i) (R := fun i s c => spec_Hash_L0 k (fun _ s i => c i s) a0 s i) (fun m i s => h0 m a0 s i) (fun _ _ => True) (fun j s c hj _ => ?_) (fun _ _ _ _ => trivial) (fun s c => ?_) hn trivial
  · have : j < big := by have := l_a0.1; omega
    simp [spec_Hash_L0, spec_Hash_P_L0, lt_nat, inRange_nat, hj, wrap_succ this, hashStep]
  · simp [spec_Hash_L0, spec_Hash_P_L0]
def OP_spec_Hash (f0 : Int → Int → Int) : Orac := (orcX 136 [.val (.int .i64), .val (.int .i64)] (fun d => true) (fun d => [⟨(.int .i64), f0 d.1 d.2.1⟩]) nilO)
def O_spec_Hash : Orac := OP_spec_Hash N.spec_Mod
theorem ok_spec_Hash : OracOk Tryz.prog sigs O_spec_Hash := (orcX_ok rfl rfl (fun d g => said_spec_Mod d.1 d.2.1) nilO_ok)
def A_spec_Hash : Ann := fun b => cond (Nat.beq b 0) ⟨[(0, false), (3, false), (4, false)], []⟩ (⟨[], []⟩)
def S_spec_Hash_0 (v0_0 : (List Int)) (v0_1 : Int) (v0_2 : Int) : St := [(kT 0, some (.tv (.v (.slice 3 (.int .i64)) v0_0 .no))), (kT 3, some (.tv (.v (.int .i64) v0_1 .no))), (kT 4, some (.tv (.v (.int .i64) v0_2 .no)))]
noncomputable def L_P_spec_Hash_0 (f0 : Int → Int → Int) (n m : Nat) : St → Option Ret := loopOf tab sigs (OP_spec_Hash f0) A_spec_Hash Tryz.f77 [((.int .i64), .no)] n (fun _ => 0) 0 m
theorem bP_spec_Hash_0 (f0 : Int → Int → Int) (n m : Nat) (v0_0 : (List Int)) (v0_1 : Int) (v0_2 : Int) : L_P_spec_Hash_0 f0 n (m + 1) (S_spec_Hash_0 v0_0 v0_1 v0_2) = spec_Hash_P_L0 f0 (fun r0 => some [⟨(.int .i64), r0⟩]) (fun v0_0 v0_1 v0_2 => L_P_spec_Hash_0 f0 n m (S_spec_Hash_0 v0_0 v0_1 v0_2)) v0_0 v0_1 v0_2 := by kernel_rfl
theorem aP_spec_Hash (f0 : Int → Int → Int) (n : Nat) (a0 : (List Int)) : absF tab sigs (OP_spec_Hash f0) A_spec_Hash Tryz.f77 [((.int .i64), .no)] n [.val (.slice 3 (.int .i64)) a0] = spec_Hash_P f0 (fun r0 => some [⟨(.int .i64), r0⟩]) (fun v0_0 v0_1 v0_2 => L_P_spec_Hash_0 f0 n n (S_spec_Hash_0 v0_0 v0_1 v0_2)) a0 := by kernel_rfl
theorem said_spec_Hash (a0 : (List Int)) : Said Tryz.prog sigs_77 77 [.val (.slice 3 (.int .i64)) a0] [⟨(.int .i64), N.spec_Hash a0⟩] := said_len (T := tab) (A := A_spec_Hash) tabOk ok_spec_Hash tabOk.follows Tryz.func77 (by kernel_rfl) (by kernel_rfl) (fun hl => let ⟨n, hn⟩ := spec_Hash_ok (ρ := Ret) (fun r0 => some [⟨(.int .i64), r0⟩]) a0 hl.1; ⟨n, (aP_spec_Hash N.spec_Mod n a0).trans (hn n (Nat.le_refl n) (fun  m v0_0 v0_1 v0_2 => L_P_spec_Hash_0 N.spec_Mod n  m (S_spec_Hash_0 v0_0 v0_1 v0_2)) (fun  m v0_0 v0_1 v0_2 => bP_spec_Hash_0 N.spec_Mod n  m v0_0 v0_1 v0_2))⟩)
abbrev N.spec_NodeOf (a b : Int) : Int := nodeOf a b
def spec_NodeOf {ρ : Type} (k : Int → Option ρ) (a0 : Int) (a1 : Int) : Option ρ := (k (N.spec_Hash [(229 : Int), a0, a1]))
theorem spec_NodeOf_ok {ρ : Type} (k : Int → Option ρ) (a0 : Int) (a1 : Int) : spec_NodeOf k  a0 a1 = k (N.spec_NodeOf a0 a1) := by
  rfl
def OP_spec_NodeOf (f0 : (List Int) → Int) : Orac := (orcX 77 [.val (.slice 3 (.int .i64))] (fun d => true) (fun d => [⟨(.int .i64), f0 d.1⟩]) nilO)
def O_spec_NodeOf : Orac := OP_spec_NodeOf N.spec_Hash
def spec_NodeOf_P {ρ : Type} (f0 : (List Int) → Int) (k : Int → Option ρ) (a0 : Int) (a1 : Int) : Option ρ := (k (f0 [(229 : Int), a0, a1]))
theorem ok_spec_NodeOf : OracOk Tryz.prog sigs O_spec_NodeOf := (orcX_ok rfl rfl (fun d g => said_spec_Hash d.1) nilO_ok)
def A_spec_NodeOf : Ann := fun b => ⟨[], []⟩
theorem aP_spec_NodeOf (f0 : (List Int) → Int) (n : Nat) (a0 : Int) (a1 : Int) : absF tab sigs (OP_spec_NodeOf f0) A_spec_NodeOf Tryz.f149 [((.int .i64), .no)] n [.val (.int .i64) a0, .val (.int .i64) a1] = spec_NodeOf_P f0 (fun r0 => some [⟨(.int .i64), r0⟩])  a0 a1 := by kernel_rfl
theorem said_spec_NodeOf (a0 : Int) (a1 : Int) : Said Tryz.prog sigs_149 149 [.val (.int .i64) a0, .val (.int .i64) a1] [⟨(.int .i64), N.spec_NodeOf a0 a1⟩] := said_len (T := tab) (A := A_spec_NodeOf) tabOk ok_spec_NodeOf tabOk.follows Tryz.func149 (by kernel_rfl) (by kernel_rfl) (fun hl => ⟨0, (aP_spec_NodeOf N.spec_Hash 0 a0 a1).trans (spec_NodeOf_ok (ρ := Ret) (fun r0 => some [⟨(.int .i64), r0⟩]) a0 a1)⟩)
abbrev G.spec_l10Up (l : List Int) : Bool := decide (l.length ≤ 1048576)
abbrev N.spec_l10Up (l : List Int) : List Int := up l
def spec_l10Up_P_L0 {ρ : Type} (f0 : Int → Int → Int) (k : (List Int) → Option ρ) (L0 : (List Int) → Int → (List Int) → Option ρ) (v0_0 : (List Int)) (v0_1 : Int) (v0_2 : (List Int)) : Option ρ := (cond (decide (v0_1 < (List.length v0_0 : Int))) (cond (decide ((IntKind.wrap .i64 (v0_1 + (1 : Int))) < (List.length v0_0 : Int))) (cond (inRange v0_1 (List.length v0_0)) (cond (inRange (IntKind.wrap .i64 (v0_1 + (1 : Int))) (List.length v0_0)) (cond (fit (List.length v0_2) (List.length [(f0 (List.getD v0_0 (Int.toNat v0_1) (0 : Int)) (List.getD v0_0 (Int.toNat (IntKind.wrap .i64 (v0_1 + (1 : Int)))) (0 : Int)))])) (L0 v0_0 (IntKind.wrap .i64 (v0_1 + (2 : Int))) (List.append v0_2 [(f0 (List.getD v0_0 (Int.toNat v0_1) (0 : Int)) (List.getD v0_0 (Int.toNat (IntKind.wrap .i64 (v0_1 + (1 : Int)))) (0 : Int)))])) none) none) none) (cond (inRange v0_1 (List.length v0_0)) (cond (fit (List.length v0_2) (List.length [(List.getD v0_0 (Int.toNat v0_1) (0 : Int))])) (L0 v0_0 (IntKind.wrap .i64 (v0_1 + (2 : Int))) (List.append v0_2 [(List.getD v0_0 (Int.toNat v0_1) (0 : Int))])) none) none)) (k v0_2))
def spec_l10Up_P {ρ : Type} (f0 : Int → Int → Int) (k : (List Int) → Option ρ) (L0 : (List Int) → Int → (List Int) → Option ρ) (a0 : (List Int)) : Option ρ := (L0 a0 (0 : Int) ([] : (List Int)))
def spec_l10Up_L0 {ρ : Type} (k : (List Int) → Option ρ) (L0 : (List Int) → Int → (List Int) → Option ρ) (v0_0 : (List Int)) (v0_1 : Int) (v0_2 : (List Int)) : Option ρ := spec_l10Up_P_L0 N.spec_NodeOf k L0 v0_0 v0_1 v0_2
def spec_l10Up {ρ : Type} (k : (List Int) → Option ρ) (L0 : (List Int) → Int → (List Int) → Option ρ) (a0 : (List Int)) : Option ρ := spec_l10Up_P N.spec_NodeOf k L0 a0
theorem spec_l10Up_ok {ρ : Type} (k : (List Int) → Option ρ) (a0 : (List Int)) (l_a0 : lnL (fun _ => True) a0) (g : G.spec_l10Up a0 = true) : ∃ n0, ∀ n, n0 ≤ n → ∀ (L0 : Nat → (List Int) → Int → (List Int) → Option ρ) (h0 : ∀ ( m : Nat) (v0_0 : (List Int)) (v0_1 : Int) (v0_2 : (List Int)), L0 (m + 1) v0_0 v0_1 v0_2 = spec_l10Up_L0 k (L0 m) v0_0 v0_1 v0_2), spec_l10Up k (L0 n) a0 = k (N.spec_l10Up a0) := by
  unfold G.spec_l10Up at g
  have hlen : a0.length ≤ 1048576 := of_decide_eq_true g
  refine ⟨a0.length + 1, fun n hn L0 h0 => ?_⟩
  refine (raw_meas (σ := Int × List Int) (L := fun m s => L0 m a0 s.1 s.2) (R := fun s c => spec_l10Up_L0 k (fun _ i out => c (i, out)) a0 s.1 s.2) (fun m s => h0 m a0 s.1 s.2) (fun s => 0 ≤ s.1 ∧ s.2.length + s.1 ≤ 2097160 ∧ s.1 ≤ a0.length + 1 ∧ s.2.length ≤ s.1) (fun s => a0.length - s.1.toNat) (fun s => k (s.2 ++ up (a0.drop s.1.toNat))) (fun s c hI hc => ?_) n (0, []) ⟨by simp, by simp, by simp; omega, by simp⟩ (by simp; omega)).trans (by simp)
  obtain ⟨j, out⟩ := s
  obtain ⟨hj0, hj1, hj2, hj3⟩ := hI
  dsimp only at hj0 hj1 hj2 hj3 hc ⊢
  obtain ⟨j, rfl⟩ := Int.eq_ofNat_of_zero_le hj0
  rw [Int.toNat_natCast]
  by_cases h : j < a0.length
  · have e1 : IntKind.wrap .i64 ((j : Int) + 2) = ((j + 2 : Nat) : Int) := by rw [wrap_id (by omega) (by omega)]; omega
    have e2 : IntKind.wrap .i64 ((j : Int) + 1) = ((j + 1 : Nat) : Int) := wrap_succ (by unfold big; omega)
    have e3 : fit out.length 1 = true := fit_of (by omega)
    by_cases h2 : j + 1 < a0.length
    · have hd : a0.drop j = a0.getD j 0 :: a0.getD (j + 1) 0 :: a0.drop (j + 2) := by rw [drop_cons 0 h, drop_cons 0 h2]
      have := hc (((j + 2 : Nat) : Int), out ++ [nodeOf (a0.getD j 0) (a0.getD (j + 1) 0)]) ⟨by simp; omega, by simp; omega, by simp; omega, by simp; omega⟩ (by simp; omega)
      dsimp only at this
      rw [Int.toNat_natCast] at this
      simp only [spec_l10Up_L0, spec_l10Up_P_L0, e1, e2, lt_nat, inRange_nat, decide_eq_true h, decide_eq_true h2, cond_true, Int.toNat_natCast, List.length_singleton, Int.natCast_one, e3, List.append_eq, this, hd]
      simp [up]
    · have hd : a0.drop j = [a0.getD j 0] := by rw [drop_cons 0 h, List.drop_of_length_le (by omega)]
      have := hc (((j + 2 : Nat) : Int), out ++ [a0.getD j 0]) ⟨by simp; omega, by simp; omega, by simp; omega, by simp; omega⟩ (by simp; omega)
      dsimp only at this
      rw [Int.toNat_natCast, List.drop_of_length_le (by omega)] at this
      simp only [spec_l10Up_L0, spec_l10Up_P_L0, e1, e2, lt_nat, inRange_nat, decide_eq_true h, decide_eq_false h2, cond_true, cond_false, Int.toNat_natCast, List.length_singleton, Int.natCast_one, e3, List.append_eq, this, hd]
      simp [up]
  · simp [spec_l10Up_L0, spec_l10Up_P_L0, lt_nat, h, List.drop_of_length_le (Nat.not_lt.1 h), up]
def OP_spec_l10Up (f0 : Int → Int → Int) : Orac := (orcX 149 [.val (.int .i64), .val (.int .i64)] (fun d => true) (fun d => [⟨(.int .i64), f0 d.1 d.2.1⟩]) nilO)
def O_spec_l10Up : Orac := OP_spec_l10Up N.spec_NodeOf
theorem ok_spec_l10Up : OracOk Tryz.prog sigs O_spec_l10Up := (orcX_ok rfl rfl (fun d g => said_spec_NodeOf d.1 d.2.1) nilO_ok)
def A_spec_l10Up : Ann := fun b => cond (Nat.beq b 0) ⟨[(0, false), (3, true), (4, false)], []⟩ (⟨[], []⟩)
def S_spec_l10Up_0 (v0_0 : (List Int)) (v0_1 : Int) (v0_2 : (List Int)) : St := [(kT 0, some (.tv (.v (.slice 3 (.int .i64)) v0_0 .no))), (kT 3, some (.tv (.v (.slice 3 (.int .i64)) [] (.own 24)))), (kT 4, some (.tv (.v (.int .i64) v0_1 .no))), (kR 24, some (.row 3 (.int .i64) v0_2))]
noncomputable def L_P_spec_l10Up_0 (f0 : Int → Int → Int) (n m : Nat) : St → Option Ret := loopOf tab sigs (OP_spec_l10Up f0) A_spec_l10Up Tryz.f139 [((.slice 3 (.int .i64)), (.own 0))] n (fun _ => 0) 0 m
theorem bP_spec_l10Up_0 (f0 : Int → Int → Int) (n m : Nat) (v0_0 : (List Int)) (v0_1 : Int) (v0_2 : (List Int)) : L_P_spec_l10Up_0 f0 n (m + 1) (S_spec_l10Up_0 v0_0 v0_1 v0_2) = spec_l10Up_P_L0 f0 (fun r0 => some [⟨(.slice 3 (.int .i64)), r0⟩]) (fun v0_0 v0_1 v0_2 => L_P_spec_l10Up_0 f0 n m (S_spec_l10Up_0 v0_0 v0_1 v0_2)) v0_0 v0_1 v0_2 := by kernel_rfl
theorem aP_spec_l10Up (f0 : Int → Int → Int) (n : Nat) (a0 : (List Int)) : absF tab sigs (OP_spec_l10Up f0) A_spec_l10Up Tryz.f139 [((.slice 3 (.int .i64)), (.own 0))] n [.val (.slice 3 (.int .i64)) a0] = spec_l10Up_P f0 (fun r0 => some [⟨(.slice 3 (.int .i64)), r0⟩]) (fun v0_0 v0_1 v0_2 => L_P_spec_l10Up_0 f0 n n (S_spec_l10Up_0 v0_0 v0_1 v0_2)) a0 := by kernel_rfl
theorem said_spec_l10Up (a0 : (List Int)) (g : G.spec_l10Up a0 = true) : Said Tryz.prog sigs_139 139 [.val (.slice 3 (.int .i64)) a0] [⟨(.slice 3 (.int .i64)), N.spec_l10Up a0⟩] := said_len (T := tab) (A := A_spec_l10Up) tabOk ok_spec_l10Up tabOk.follows Tryz.func139 (by kernel_rfl) (by kernel_rfl) (fun hl => let ⟨n, hn⟩ := spec_l10Up_ok (ρ := Ret) (fun r0 => some [⟨(.slice 3 (.int .i64)), r0⟩]) a0 hl.1 g; ⟨n, (aP_spec_l10Up N.spec_NodeOf n a0).trans (hn n (Nat.le_refl n) (fun  m v0_0 v0_1 v0_2 => L_P_spec_l10Up_0 N.spec_NodeOf n  m (S_spec_l10Up_0 v0_0 v0_1 v0_2)) (fun  m v0_0 v0_1 v0_2 => bP_spec_l10Up_0 N.spec_NodeOf n  m v0_0 v0_1 v0_2))⟩)
abbrev N.impl_hash (l : List Int) : Int := hash l
def impl_hash {ρ : Type} (k : Int → Option ρ) (a0 : (List Int)) : Option ρ := (k (N.impl_Hash a0))
theorem impl_hash_ok {ρ : Type} (k : Int → Option ρ) (a0 : (List Int)) (l_a0 : lnL (fun _ => True) a0) : impl_hash k  a0 = k (N.impl_hash a0) := by
  rfl
def OP_impl_hash (f0 : (List Int) → Int) : Orac := (orcX 71 [.val (.slice 3 (.int .i64))] (fun d => true) (fun d => [⟨(.int .i64), f0 d.1⟩]) nilO)
def O_impl_hash : Orac := OP_impl_hash N.impl_Hash
def impl_hash_P {ρ : Type} (f0 : (List Int) → Int) (k : Int → Option ρ) (a0 : (List Int)) : Option ρ := (k (f0 a0))
theorem ok_impl_hash : OracOk Tryz.prog sigs O_impl_hash := (orcX_ok rfl rfl (fun d g => said_impl_Hash d.1) nilO_ok)
def A_impl_hash : Ann := fun b => ⟨[], []⟩
theorem aP_impl_hash (f0 : (List Int) → Int) (n : Nat) (a0 : (List Int)) : absF tab sigs (OP_impl_hash f0) A_impl_hash Tryz.f91 [((.int .i64), .no)] n [.val (.slice 3 (.int .i64)) a0] = impl_hash_P f0 (fun r0 => some [⟨(.int .i64), r0⟩])  a0 := by kernel_rfl
theorem said_impl_hash (a0 : (List Int)) : Said Tryz.prog sigs_91 91 [.val (.slice 3 (.int .i64)) a0] [⟨(.int .i64), N.impl_hash a0⟩] := said_len (T := tab) (A := A_impl_hash) tabOk ok_impl_hash tabOk.follows Tryz.func91 (by kernel_rfl) (by kernel_rfl) (fun hl => ⟨0, (aP_impl_hash N.impl_Hash 0 a0).trans (impl_hash_ok (ρ := Ret) (fun r0 => some [⟨(.int .i64), r0⟩]) a0 hl.1)⟩)
abbrev N.impl_NodeOf (a b : Int) : Int := nodeOf a b
def impl_NodeOf {ρ : Type} (k : Int → Option ρ) (a0 : Int) (a1 : Int) : Option ρ := (k (N.impl_hash [(229 : Int), a0, a1]))
theorem impl_NodeOf_ok {ρ : Type} (k : Int → Option ρ) (a0 : Int) (a1 : Int) : impl_NodeOf k  a0 a1 = k (N.impl_NodeOf a0 a1) := by
  rfl
def OP_impl_NodeOf (f0 : (List Int) → Int) : Orac := (orcX 91 [.val (.slice 3 (.int .i64))] (fun d => true) (fun d => [⟨(.int .i64), f0 d.1⟩]) nilO)
def O_impl_NodeOf : Orac := OP_impl_NodeOf N.impl_hash
def impl_NodeOf_P {ρ : Type} (f0 : (List Int) → Int) (k : Int → Option ρ) (a0 : Int) (a1 : Int) : Option ρ := (k (f0 [(229 : Int), a0, a1]))
theorem ok_impl_NodeOf : OracOk Tryz.prog sigs O_impl_NodeOf := (orcX_ok rfl rfl (fun d g => said_impl_hash d.1) nilO_ok)
def A_impl_NodeOf : Ann := fun b => ⟨[], []⟩
theorem aP_impl_NodeOf (f0 : (List Int) → Int) (n : Nat) (a0 : Int) (a1 : Int) : absF tab sigs (OP_impl_NodeOf f0) A_impl_NodeOf Tryz.f140 [((.int .i64), .no)] n [.val (.int .i64) a0, .val (.int .i64) a1] = impl_NodeOf_P f0 (fun r0 => some [⟨(.int .i64), r0⟩])  a0 a1 := by kernel_rfl
theorem said_impl_NodeOf (a0 : Int) (a1 : Int) : Said Tryz.prog sigs_140 140 [.val (.int .i64) a0, .val (.int .i64) a1] [⟨(.int .i64), N.impl_NodeOf a0 a1⟩] := said_len (T := tab) (A := A_impl_NodeOf) tabOk ok_impl_NodeOf tabOk.follows Tryz.func140 (by kernel_rfl) (by kernel_rfl) (fun hl => ⟨0, (aP_impl_NodeOf N.impl_hash 0 a0 a1).trans (impl_NodeOf_ok (ρ := Ret) (fun r0 => some [⟨(.int .i64), r0⟩]) a0 a1)⟩)
abbrev G.impl_above (l : List Int) : Bool := decide (l.length ≤ 1048576)
abbrev N.impl_above (l : List Int) : List Int := up l
def impl_above_P_L0 {ρ : Type} (f0 : Int → Int → Int) (k : (List Int) → Option ρ) (L0 : (List Int) → Int → (List Int) → Option ρ) (v0_0 : (List Int)) (v0_1 : Int) (v0_2 : (List Int)) : Option ρ := (cond (decide (v0_1 < (List.length v0_0 : Int))) (cond (decide ((IntKind.wrap .i64 (v0_1 + (1 : Int))) < (List.length v0_0 : Int))) (cond (inRange v0_1 (List.length v0_0)) (cond (inRange (IntKind.wrap .i64 (v0_1 + (1 : Int))) (List.length v0_0)) (cond (fit (List.length v0_2) (List.length [(f0 (List.getD v0_0 (Int.toNat v0_1) (0 : Int)) (List.getD v0_0 (Int.toNat (IntKind.wrap .i64 (v0_1 + (1 : Int)))) (0 : Int)))])) (L0 v0_0 (IntKind.wrap .i64 (v0_1 + (2 : Int))) (List.append v0_2 [(f0 (List.getD v0_0 (Int.toNat v0_1) (0 : Int)) (List.getD v0_0 (Int.toNat (IntKind.wrap .i64 (v0_1 + (1 : Int)))) (0 : Int)))])) none) none) none) (cond (inRange v0_1 (List.length v0_0)) (cond (fit (List.length v0_2) (List.length [(List.getD v0_0 (Int.toNat v0_1) (0 : Int))])) (L0 v0_0 (IntKind.wrap .i64 (v0_1 + (2 : Int))) (List.append v0_2 [(List.getD v0_0 (Int.toNat v0_1) (0 : Int))])) none) none)) (k v0_2))
def impl_above_P {ρ : Type} (f0 : Int → Int → Int) (k : (List Int) → Option ρ) (L0 : (List Int) → Int → (List Int) → Option ρ) (a0 : (List Int)) : Option ρ := (L0 a0 (0 : Int) ([] : (List Int)))
def impl_above_L0 {ρ : Type} (k : (List Int) → Option ρ) (L0 : (List Int) → Int → (List Int) → Option ρ) (v0_0 : (List Int)) (v0_1 : Int) (v0_2 : (List Int)) : Option ρ := impl_above_P_L0 N.impl_NodeOf k L0 v0_0 v0_1 v0_2
def impl_above {ρ : Type} (k : (List Int) → Option ρ) (L0 : (List Int) → Int → (List Int) → Option ρ) (a0 : (List Int)) : Option ρ := impl_above_P N.impl_NodeOf k L0 a0
theorem impl_above_ok {ρ : Type} (k : (List Int) → Option ρ) (a0 : (List Int)) (l_a0 : lnL (fun _ => True) a0) (g : G.impl_above a0 = true) : ∃ n0, ∀ n, n0 ≤ n → ∀ (L0 : Nat → (List Int) → Int → (List Int) → Option ρ) (h0 : ∀ ( m : Nat) (v0_0 : (List Int)) (v0_1 : Int) (v0_2 : (List Int)), L0 (m + 1) v0_0 v0_1 v0_2 = impl_above_L0 k (L0 m) v0_0 v0_1 v0_2), impl_above k (L0 n) a0 = k (N.impl_above a0) := by
  unfold G.impl_above at g
  exact spec_l10Up_ok k a0 l_a0 g
def OP_impl_above (f0 : Int → Int → Int) : Orac := (orcX 140 [.val (.int .i64), .val (.int .i64)] (fun d => true) (fun d => [⟨(.int .i64), f0 d.1 d.2.1⟩]) nilO)
def O_impl_above : Orac := OP_impl_above N.impl_NodeOf
theorem ok_impl_above : OracOk Tryz.prog sigs O_impl_above := (orcX_ok rfl rfl (fun d g => said_impl_NodeOf d.1 d.2.1) nilO_ok)
def A_impl_above : Ann := fun b => cond (Nat.beq b 0) ⟨[(0, false), (3, true), (4, false)], []⟩ (⟨[], []⟩)
def S_impl_above_0 (v0_0 : (List Int)) (v0_1 : Int) (v0_2 : (List Int)) : St := [(kT 0, some (.tv (.v (.slice 3 (.int .i64)) v0_0 .no))), (kT 3, some (.tv (.v (.slice 3 (.int .i64)) [] (.own 24)))), (kT 4, some (.tv (.v (.int .i64) v0_1 .no))), (kR 24, some (.row 3 (.int .i64) v0_2))]
noncomputable def L_P_impl_above_0 (f0 : Int → Int → Int) (n m : Nat) : St → Option Ret := loopOf tab sigs (OP_impl_above f0) A_impl_above Tryz.f92 [((.slice 3 (.int .i64)), (.own 0))] n (fun _ => 0) 0 m
theorem bP_impl_above_0 (f0 : Int → Int → Int) (n m : Nat) (v0_0 : (List Int)) (v0_1 : Int) (v0_2 : (List Int)) : L_P_impl_above_0 f0 n (m + 1) (S_impl_above_0 v0_0 v0_1 v0_2) = impl_above_P_L0 f0 (fun r0 => some [⟨(.slice 3 (.int .i64)), r0⟩]) (fun v0_0 v0_1 v0_2 => L_P_impl_above_0 f0 n m (S_impl_above_0 v0_0 v0_1 v0_2)) v0_0 v0_1 v0_2 := by kernel_rfl
theorem aP_impl_above (f0 : Int → Int → Int) (n : Nat) (a0 : (List Int)) : absF tab sigs (OP_impl_above f0) A_impl_above Tryz.f92 [((.slice 3 (.int .i64)), (.own 0))] n [.val (.slice 3 (.int .i64)) a0] = impl_above_P f0 (fun r0 => some [⟨(.slice 3 (.int .i64)), r0⟩]) (fun v0_0 v0_1 v0_2 => L_P_impl_above_0 f0 n n (S_impl_above_0 v0_0 v0_1 v0_2)) a0 := by kernel_rfl
theorem said_impl_above (a0 : (List Int)) (g : G.impl_above a0 = true) : Said Tryz.prog sigs_92 92 [.val (.slice 3 (.int .i64)) a0] [⟨(.slice 3 (.int .i64)), N.impl_above a0⟩] := said_len (T := tab) (A := A_impl_above) tabOk ok_impl_above tabOk.follows Tryz.func92 (by kernel_rfl) (by kernel_rfl) (fun hl => let ⟨n, hn⟩ := impl_above_ok (ρ := Ret) (fun r0 => some [⟨(.slice 3 (.int .i64)), r0⟩]) a0 hl.1 g; ⟨n, (aP_impl_above N.impl_NodeOf n a0).trans (hn n (Nat.le_refl n) (fun  m v0_0 v0_1 v0_2 => L_P_impl_above_0 N.impl_NodeOf n  m (S_impl_above_0 v0_0 v0_1 v0_2)) (fun  m v0_0 v0_1 v0_2 => bP_impl_above_0 N.impl_NodeOf n  m v0_0 v0_1 v0_2))⟩)
abbrev G.impl_PathFor (l : List Int) (i : Int) : Bool := decide (l.length ≤ 1048576)
abbrev N.impl_PathFor (l : List Int) (i : Int) : List Int := pathFor l i
def impl_PathFor_P_L0 {ρ : Type} (f0 : Int → Int → Int → Bool) (f1 : (List Int) → (List Int)) (g1 : (List Int) → Bool) (k : (List Int) → Option ρ) (L0 : (List Int) → Int → (List Int) → Option ρ) (v0_0 : (List Int)) (v0_1 : Int) (v0_2 : (List Int)) : Option ρ := (cond (decide ((List.length v0_0 : Int) > (1 : Int))) (cond (decide ((xorI .i64 v0_1 (1 : Int)) < (List.length v0_0 : Int))) (cond (inRange (xorI .i64 v0_1 (1 : Int)) (List.length v0_0)) (cond (fit (List.length v0_2) (List.length [(List.getD v0_0 (Int.toNat (xorI .i64 v0_1 (1 : Int))) (0 : Int))])) (cond (g1 v0_0) (L0 (f1 v0_0) (IntKind.wrap .i64 (Int.tdiv v0_1 (2 : Int))) (List.append v0_2 [(List.getD v0_0 (Int.toNat (xorI .i64 v0_1 (1 : Int))) (0 : Int))])) none) none) none) (cond (g1 v0_0) (L0 (f1 v0_0) (IntKind.wrap .i64 (Int.tdiv v0_1 (2 : Int))) v0_2) none)) (k v0_2))
def impl_PathFor_P {ρ : Type} (f0 : Int → Int → Int → Bool) (f1 : (List Int) → (List Int)) (g1 : (List Int) → Bool) (k : (List Int) → Option ρ) (L0 : (List Int) → Int → (List Int) → Option ρ) (a0 : (List Int)) (a1 : Int) : Option ρ := (cond (!(f0 a1 (0 : Int) (IntKind.wrap .i64 ((List.length a0 : Int) - (1 : Int))))) (k ([] : (List Int))) (L0 a0 a1 ([] : (List Int))))
def impl_PathFor_L0 {ρ : Type} (k : (List Int) → Option ρ) (L0 : (List Int) → Int → (List Int) → Option ρ) (v0_0 : (List Int)) (v0_1 : Int) (v0_2 : (List Int)) : Option ρ := impl_PathFor_P_L0 N.impl_InRange N.impl_above G.impl_above k L0 v0_0 v0_1 v0_2
def impl_PathFor {ρ : Type} (k : (List Int) → Option ρ) (L0 : (List Int) → Int → (List Int) → Option ρ) (a0 : (List Int)) (a1 : Int) : Option ρ := impl_PathFor_P N.impl_InRange N.impl_above G.impl_above k L0 a0 a1
theorem impl_PathFor_ok {ρ : Type} (k : (List Int) → Option ρ) (a0 : (List Int)) (a1 : Int) (l_a0 : lnL (fun _ => True) a0) (g : G.impl_PathFor a0 a1 = true) : ∃ n0, ∀ n, n0 ≤ n → ∀ (L0 : Nat → (List Int) → Int → (List Int) → Option ρ) (h0 : ∀ ( m : Nat) (v0_0 : (List Int)) (v0_1 : Int) (v0_2 : (List Int)), L0 (m + 1) v0_0 v0_1 v0_2 = impl_PathFor_L0 k (L0 m) v0_0 v0_1 v0_2), impl_PathFor k (L0 n) a0 a1 = k (N.impl_PathFor a0 a1) := by
  unfold G.impl_PathFor at g
  have hlen : a0.length ≤ 1048576 := of_decide_eq_true g
  refine ⟨a0.length + 1, fun n hn L0 h0 => ?_⟩
  show impl_PathFor k (L0 n) a0 a1 = k (pathFor a0 a1)
  unfold impl_PathFor impl_PathFor_P pathFor
  dsimp only [N.impl_InRange]
  rw [wrap_id (n := (a0.length : Int) - 1) (by omega) (by omega)]
  cases hi1 : inR a1 0 ((a0.length : Int) - 1) with
  | false => rfl
  | true =>
    have hi2 : 0 ≤ a1 ∧ a1 ≤ (a0.length : Int) - 1 := by simpa [inR] using hi1
    show L0 n a0 a1 [] = k (pathN a0.length a1.toNat a0)
    refine (raw_meas (σ := Int × List Int × List Int) (L := fun m s => L0 m s.2.1 s.1 s.2.2) (R := fun s c => impl_PathFor_L0 k (fun l i o => c (i, l, o)) s.2.1 s.1 s.2.2)
      (fun m s => h0 m _ _ _) (fun s => 0 ≤ s.1 ∧ s.1 < s.2.1.length ∧ s.2.2.length + s.2.1.length ≤ 1048576) (fun s => s.2.1.length) (fun s => k (s.2.2 ++ pathN s.2.1.length s.1.toNat s.2.1)) (fun s c hI hc => ?_) n (a1, a0, []) ⟨hi2.1, by dsimp only; omega, by simp; omega⟩ (by dsimp only; omega)).trans (by simp)
    obtain ⟨i, l, o⟩ := s
    obtain ⟨b0, b1, b2⟩ := hI
    dsimp only at b0 b1 b2 hc ⊢
    obtain ⟨i, rfl⟩ := Int.eq_ofNat_of_zero_le b0
    simp only [Int.toNat_natCast] at hc ⊢
    by_cases h1 : 1 < l.length
    · obtain ⟨f, hf⟩ : ∃ f, l.length = f + 1 := ⟨l.length - 1, by omega⟩
      have hu := up_len l
      have e1 : decide ((l.length : Int) > 1) = true := by simp; omega
      have hx : xorI .i64 (i : Int) 1 = ((sib i : Nat) : Int) := xor_sib (by omega)
      have g1 : decide (l.length ≤ 1048576) = true := by simp; omega
      have step : ∀ o', o'.length ≤ o.length + 1 → c (((i / 2 : Nat) : Int), up l, o') = k (o' ++ pathN f (i / 2) (up l)) := by
        intro o' ho'
        have := hc (((i / 2 : Nat) : Int), up l, o') ⟨by simp; omega, by simp; omega, by simp; omega⟩ (by simp; omega)
        simp only [Int.toNat_natCast] at this
        rw [this, pathN_more _ f _ _ (by omega) (by omega)]
      rw [hf]
      unfold pathN
      rw [decide_eq_true h1]
      by_cases hs : sib i < l.length
      · have e3 : fit o.length 1 = true := fit_of (by omega)
        simp only [impl_PathFor_L0, impl_PathFor_P_L0, e1, hx, lt_nat, inRange_nat, decide_eq_true hs, cond_true, Int.toNat_natCast, List.length_singleton, e3, List.append_eq, tdiv2 (i := i) (by omega), G.impl_above, g1, N.impl_above]
        rw [step _ (by simp)]
        simp
      · simp only [impl_PathFor_L0, impl_PathFor_P_L0, e1, hx, lt_nat, inRange_nat, decide_eq_false hs, cond_true, cond_false, tdiv2 (i := i) (by omega), G.impl_above, g1, N.impl_above]
        rw [step _ (by omega)]
        simp
    · have e1 : decide ((l.length : Int) > 1) = false := by simp; omega
      obtain ⟨f, hf⟩ : ∃ f, l.length = f + 1 := ⟨l.length - 1, by omega⟩
      rw [hf]
      unfold pathN
      rw [decide_eq_false h1]
      simp [impl_PathFor_L0, impl_PathFor_P_L0, e1]
def OP_impl_PathFor (f0 : Int → Int → Int → Bool) (f1 : (List Int) → (List Int)) (g1 : (List Int) → Bool) : Orac := (orcX 92 [.val (.slice 3 (.int .i64))] (fun d => g1 d.1) (fun d => [⟨(.slice 3 (.int .i64)), f1 d.1⟩]) (orcX 45 [.val (.int .i64), .val (.int .i64), .val (.int .i64)] (fun d => true) (fun d => [⟨.bool, f0 d.1 d.2.1 d.2.2.1⟩]) nilO))
def O_impl_PathFor : Orac := OP_impl_PathFor N.impl_InRange N.impl_above G.impl_above
theorem ok_impl_PathFor : OracOk Tryz.prog sigs O_impl_PathFor := (orcX_ok rfl rfl (fun d g => said_impl_above d.1 g) (orcX_ok rfl rfl (fun d g => said_impl_InRange d.1 d.2.1 d.2.2.1) nilO_ok))
def A_impl_PathFor : Ann := fun b => cond (Nat.beq b 0) ⟨[(0, false), (1, false), (5, true)], []⟩ (⟨[], []⟩)
def S_impl_PathFor_0 (v0_0 : (List Int)) (v0_1 : Int) (v0_2 : (List Int)) : St := [(kT 0, some (.tv (.v (.slice 3 (.int .i64)) v0_0 .no))), (kT 1, some (.tv (.v (.int .i64) v0_1 .no))), (kT 5, some (.tv (.v (.slice 3 (.int .i64)) [] (.own 40)))), (kR 40, some (.row 3 (.int .i64) v0_2))]
noncomputable def L_P_impl_PathFor_0 (f0 : Int → Int → Int → Bool) (f1 : (List Int) → (List Int)) (g1 : (List Int) → Bool) (n m : Nat) : St → Option Ret := loopOf tab sigs (OP_impl_PathFor f0 f1 g1) A_impl_PathFor Tryz.f84 [((.slice 3 (.int .i64)), (.own 0))] n (fun _ => 0) 0 m
theorem bP_impl_PathFor_0 (f0 : Int → Int → Int → Bool) (f1 : (List Int) → (List Int)) (g1 : (List Int) → Bool) (n m : Nat) (v0_0 : (List Int)) (v0_1 : Int) (v0_2 : (List Int)) : L_P_impl_PathFor_0 f0 f1 g1 n (m + 1) (S_impl_PathFor_0 v0_0 v0_1 v0_2) = impl_PathFor_P_L0 f0 f1 g1 (fun r0 => some [⟨(.slice 3 (.int .i64)), r0⟩]) (fun v0_0 v0_1 v0_2 => L_P_impl_PathFor_0 f0 f1 g1 n m (S_impl_PathFor_0 v0_0 v0_1 v0_2)) v0_0 v0_1 v0_2 := by kernel_rfl
theorem aP_impl_PathFor (f0 : Int → Int → Int → Bool) (f1 : (List Int) → (List Int)) (g1 : (List Int) → Bool) (n : Nat) (a0 : (List Int)) (a1 : Int) : absF tab sigs (OP_impl_PathFor f0 f1 g1) A_impl_PathFor Tryz.f84 [((.slice 3 (.int .i64)), (.own 0))] n [.val (.slice 3 (.int .i64)) a0, .val (.int .i64) a1] = impl_PathFor_P f0 f1 g1 (fun r0 => some [⟨(.slice 3 (.int .i64)), r0⟩]) (fun v0_0 v0_1 v0_2 => L_P_impl_PathFor_0 f0 f1 g1 n n (S_impl_PathFor_0 v0_0 v0_1 v0_2)) a0 a1 := by kernel_rfl
theorem said_impl_PathFor (a0 : (List Int)) (a1 : Int) (g : G.impl_PathFor a0 a1 = true) : Said Tryz.prog sigs_84 84 [.val (.slice 3 (.int .i64)) a0, .val (.int .i64) a1] [⟨(.slice 3 (.int .i64)), N.impl_PathFor a0 a1⟩] := said_len (T := tab) (A := A_impl_PathFor) tabOk ok_impl_PathFor tabOk.follows Tryz.func84 (by kernel_rfl) (by kernel_rfl) (fun hl => let ⟨n, hn⟩ := impl_PathFor_ok (ρ := Ret) (fun r0 => some [⟨(.slice 3 (.int .i64)), r0⟩]) a0 a1 hl.1 g; ⟨n, (aP_impl_PathFor N.impl_InRange N.impl_above G.impl_above n a0 a1).trans (hn n (Nat.le_refl n) (fun  m v0_0 v0_1 v0_2 => L_P_impl_PathFor_0 N.impl_InRange N.impl_above G.impl_above n  m (S_impl_PathFor_0 v0_0 v0_1 v0_2)) (fun  m v0_0 v0_1 v0_2 => bP_impl_PathFor_0 N.impl_InRange N.impl_above G.impl_above n  m v0_0 v0_1 v0_2))⟩)
abbrev G.impl_ProveEntry (l : List TEntry) (s : ByteArray) : Bool := decide (wEs l ≤ 1048576)
abbrev N.impl_ProveEntry (l : List TEntry) (s : ByteArray) : TProof × Bool := proveEntry l s
def impl_ProveEntry_P {ρ : Type} (f0 : (List TEntry) → ByteArray → Int) (f1 : (List TEntry) → (List Int)) (g1 : (List TEntry) → Bool) (f2 : (List Int) → Int → (List Int)) (g2 : (List Int) → Int → Bool) (k : TProof → Bool → Option ρ) (a0 : (List TEntry)) (a1 : ByteArray) : Option ρ := (cond (decide ((f0 a0 a1) < (0 : Int))) (k ((0 : Int), []) false) (cond (g1 a0) (cond (g2 (f1 a0) (f0 a0 a1)) (k ((f0 a0 a1), (f2 (f1 a0) (f0 a0 a1))) true) none) none))
def impl_ProveEntry {ρ : Type} (k : TProof → Bool → Option ρ) (a0 : (List TEntry)) (a1 : ByteArray) : Option ρ := impl_ProveEntry_P N.impl_FindEntry N.impl_LeavesOf G.impl_LeavesOf N.impl_PathFor G.impl_PathFor k a0 a1
theorem impl_ProveEntry_ok {ρ : Type} (k : TProof → Bool → Option ρ) (a0 : (List TEntry)) (a1 : ByteArray) (l_a0 : lnL (fun y => (True ∧ (True ∧ (True ∧ lnL (fun _ => True) y.2.2.2)))) a0) (g : G.impl_ProveEntry a0 a1 = true) : impl_ProveEntry k  a0 a1 = k (N.impl_ProveEntry a0 a1).1 (N.impl_ProveEntry a0 a1).2 := by
  unfold G.impl_ProveEntry at g
  have gl : (a0.map leafOf).length ≤ 1048576 := by rw [List.length_map]; exact Nat.le_trans (wEs_ge a0) (of_decide_eq_true g)
  simp only [impl_ProveEntry, impl_ProveEntry_P, N.impl_FindEntry, G.impl_LeavesOf, N.impl_LeavesOf, G.impl_PathFor, N.impl_PathFor, g, decide_eq_true gl, cond_true, proveEntry]
  cases decide (findEntry a0 a1 < 0) <;> rfl
def OP_impl_ProveEntry (f0 : (List TEntry) → ByteArray → Int) (f1 : (List TEntry) → (List Int)) (g1 : (List TEntry) → Bool) (f2 : (List Int) → Int → (List Int)) (g2 : (List Int) → Int → Bool) : Orac := (orcX 84 [.val (.slice 3 (.int .i64)), .val (.int .i64)] (fun d => g2 d.1 d.2.1) (fun d => [⟨(.slice 3 (.int .i64)), f2 d.1 d.2.1⟩]) (orcX 44 [.val (.slice 29 TyEntry)] (fun d => g1 d.1) (fun d => [⟨(.slice 3 (.int .i64)), f1 d.1⟩]) (orcX 31 [.val (.slice 29 TyEntry), .val .str] (fun d => true) (fun d => [⟨(.int .i64), f0 d.1 d.2.1⟩]) nilO)))
def O_impl_ProveEntry : Orac := OP_impl_ProveEntry N.impl_FindEntry N.impl_LeavesOf G.impl_LeavesOf N.impl_PathFor G.impl_PathFor
theorem ok_impl_ProveEntry : OracOk Tryz.prog sigs O_impl_ProveEntry := (orcX_ok rfl rfl (fun d g => said_impl_PathFor d.1 d.2.1 g) (orcX_ok rfl rfl (fun d g => said_impl_LeavesOf d.1 g) (orcX_ok rfl rfl (fun d g => said_impl_FindEntry d.1 d.2.1) nilO_ok)))
def A_impl_ProveEntry : Ann := fun b => ⟨[], []⟩
theorem aP_impl_ProveEntry (f0 : (List TEntry) → ByteArray → Int) (f1 : (List TEntry) → (List Int)) (g1 : (List TEntry) → Bool) (f2 : (List Int) → Int → (List Int)) (g2 : (List Int) → Int → Bool) (n : Nat) (a0 : (List TEntry)) (a1 : ByteArray) : absF tab sigs (OP_impl_ProveEntry f0 f1 g1 f2 g2) A_impl_ProveEntry Tryz.f33 [((.pair (.int .i64) (.slice 3 (.int .i64))), (.pair .no (.own 0))), (.bool, .no)] n [.val (.slice 29 TyEntry) a0, .val .str a1] = impl_ProveEntry_P f0 f1 g1 f2 g2 (fun r0 r1 => some [⟨(.pair (.int .i64) (.slice 3 (.int .i64))), r0⟩, ⟨.bool, r1⟩])  a0 a1 := by kernel_rfl
theorem said_impl_ProveEntry (a0 : (List TEntry)) (a1 : ByteArray) (g : G.impl_ProveEntry a0 a1 = true) : Said Tryz.prog sigs_33 33 [.val (.slice 29 TyEntry) a0, .val .str a1] [⟨(.pair (.int .i64) (.slice 3 (.int .i64))), (N.impl_ProveEntry a0 a1).1⟩, ⟨.bool, (N.impl_ProveEntry a0 a1).2⟩] := said_len (T := tab) (A := A_impl_ProveEntry) tabOk ok_impl_ProveEntry tabOk.follows Tryz.func33 (by kernel_rfl) (by kernel_rfl) (fun hl => ⟨0, (aP_impl_ProveEntry N.impl_FindEntry N.impl_LeavesOf G.impl_LeavesOf N.impl_PathFor G.impl_PathFor 0 a0 a1).trans (impl_ProveEntry_ok (ρ := Ret) (fun r0 r1 => some [⟨(.pair (.int .i64) (.slice 3 (.int .i64))), r0⟩, ⟨.bool, r1⟩]) a0 a1 hl.1 g)⟩)
abbrev G.impl_ProveAbsence (l : List TEntry) (s : ByteArray) : Bool := decide (wEs l ≤ 1048576) && decide (s.size ≤ 1048576)
abbrev N.impl_ProveAbsence (l : List TEntry) (s : ByteArray) : TGap × Bool := proveAbsence l s
def impl_ProveAbsence_P {ρ : Type} (f0 : (List TEntry) → Bool) (g0 : (List TEntry) → Bool) (f1 : ByteArray → Bool) (g1 : ByteArray → Bool) (f2 : (List TEntry) → ByteArray → Int) (f3 : (List TEntry) → ByteArray → Int) (f4 : TEntry → TEntry) (g4 : TEntry → Bool) (f5 : (List TEntry) → ByteArray → (TProof × Bool)) (g5 : (List TEntry) → ByteArray → Bool) (k : TGap → Bool → Option ρ) (a0 : (List TEntry)) (a1 : ByteArray) : Option ρ := (cond (g0 a0) (cond (!(f0 a0)) (k ((0 : Int), ((ByteArray.empty, ((0 : Int), ((0 : Int), []))), ((ByteArray.empty, ((0 : Int), ((0 : Int), []))), (((0 : Int), []), ((0 : Int), []))))) false) (cond (g1 a1) (cond (!(f1 a1)) (k ((0 : Int), ((ByteArray.empty, ((0 : Int), ((0 : Int), []))), ((ByteArray.empty, ((0 : Int), ((0 : Int), []))), (((0 : Int), []), ((0 : Int), []))))) false) (cond (decide ((f2 a0 a1) ≥ (0 : Int))) (k ((0 : Int), ((ByteArray.empty, ((0 : Int), ((0 : Int), []))), ((ByteArray.empty, ((0 : Int), ((0 : Int), []))), (((0 : Int), []), ((0 : Int), []))))) false) (cond (decide ((f3 a0 a1) > (0 : Int))) (cond (inRange (IntKind.wrap .i64 ((f3 a0 a1) - (1 : Int))) (List.length a0)) (cond (g4 (List.getD a0 (Int.toNat (IntKind.wrap .i64 ((f3 a0 a1) - (1 : Int)))) (ByteArray.empty, ((0 : Int), ((0 : Int), []))))) (cond (g5 a0 (f4 (List.getD a0 (Int.toNat (IntKind.wrap .i64 ((f3 a0 a1) - (1 : Int)))) (ByteArray.empty, ((0 : Int), ((0 : Int), []))))).1) (cond (decide ((f3 a0 a1) < (List.length a0 : Int))) (cond (inRange (f3 a0 a1) (List.length a0)) (cond (g4 (List.getD a0 (Int.toNat (f3 a0 a1)) (ByteArray.empty, ((0 : Int), ((0 : Int), []))))) (cond (g5 a0 (f4 (List.getD a0 (Int.toNat (f3 a0 a1)) (ByteArray.empty, ((0 : Int), ((0 : Int), []))))).1) (k ((f3 a0 a1), ((f4 (List.getD a0 (Int.toNat (IntKind.wrap .i64 ((f3 a0 a1) - (1 : Int)))) (ByteArray.empty, ((0 : Int), ((0 : Int), []))))), ((f4 (List.getD a0 (Int.toNat (f3 a0 a1)) (ByteArray.empty, ((0 : Int), ((0 : Int), []))))), ((f5 a0 (f4 (List.getD a0 (Int.toNat (IntKind.wrap .i64 ((f3 a0 a1) - (1 : Int)))) (ByteArray.empty, ((0 : Int), ((0 : Int), []))))).1).1, (f5 a0 (f4 (List.getD a0 (Int.toNat (f3 a0 a1)) (ByteArray.empty, ((0 : Int), ((0 : Int), []))))).1).1)))) true) none) none) none) (k ((f3 a0 a1), ((f4 (List.getD a0 (Int.toNat (IntKind.wrap .i64 ((f3 a0 a1) - (1 : Int)))) (ByteArray.empty, ((0 : Int), ((0 : Int), []))))), ((ByteArray.empty, ((0 : Int), ((0 : Int), []))), ((f5 a0 (f4 (List.getD a0 (Int.toNat (IntKind.wrap .i64 ((f3 a0 a1) - (1 : Int)))) (ByteArray.empty, ((0 : Int), ((0 : Int), []))))).1).1, ((0 : Int), []))))) true)) none) none) none) (cond (decide ((f3 a0 a1) < (List.length a0 : Int))) (cond (inRange (f3 a0 a1) (List.length a0)) (cond (g4 (List.getD a0 (Int.toNat (f3 a0 a1)) (ByteArray.empty, ((0 : Int), ((0 : Int), []))))) (cond (g5 a0 (f4 (List.getD a0 (Int.toNat (f3 a0 a1)) (ByteArray.empty, ((0 : Int), ((0 : Int), []))))).1) (k ((f3 a0 a1), ((ByteArray.empty, ((0 : Int), ((0 : Int), []))), ((f4 (List.getD a0 (Int.toNat (f3 a0 a1)) (ByteArray.empty, ((0 : Int), ((0 : Int), []))))), (((0 : Int), []), (f5 a0 (f4 (List.getD a0 (Int.toNat (f3 a0 a1)) (ByteArray.empty, ((0 : Int), ((0 : Int), []))))).1).1)))) true) none) none) none) (k ((f3 a0 a1), ((ByteArray.empty, ((0 : Int), ((0 : Int), []))), ((ByteArray.empty, ((0 : Int), ((0 : Int), []))), (((0 : Int), []), ((0 : Int), []))))) true))))) none)) none)
def impl_ProveAbsence {ρ : Type} (k : TGap → Bool → Option ρ) (a0 : (List TEntry)) (a1 : ByteArray) : Option ρ := impl_ProveAbsence_P N.impl_AreEntries G.impl_AreEntries N.impl_IsLabel G.impl_IsLabel N.impl_FindEntry N.impl_RankOf N.impl_copyEntry G.impl_copyEntry N.impl_ProveEntry G.impl_ProveEntry k a0 a1
theorem impl_ProveAbsence_ok {ρ : Type} (k : TGap → Bool → Option ρ) (a0 : (List TEntry)) (a1 : ByteArray) (l_a0 : lnL (fun y => (True ∧ (True ∧ (True ∧ lnL (fun _ => True) y.2.2.2)))) a0) (g : G.impl_ProveAbsence a0 a1 = true) : impl_ProveAbsence k  a0 a1 = k (N.impl_ProveAbsence a0 a1).1 (N.impl_ProveAbsence a0 a1).2 := by
  unfold G.impl_ProveAbsence at g
  obtain ⟨g1, g2⟩ := (Bool.and_eq_true _ _).mp g
  have hw : wEs a0 ≤ 1048576 := of_decide_eq_true g1
  have hp : ∀ j, decide ((a0.getD j (ByteArray.empty, (0, (0, [])))).2.2.2.length ≤ 1048576) = true := fun j => decide_eq_true (Nat.le_trans (entAt_len a0 j) hw)
  simp only [impl_ProveAbsence, impl_ProveAbsence_P, G.impl_AreEntries, N.impl_AreEntries, G.impl_IsLabel, N.impl_IsLabel, N.impl_FindEntry, N.impl_RankOf, G.impl_copyEntry, N.impl_copyEntry, G.impl_ProveEntry, N.impl_ProveEntry, g1, g2, hp, cond_true]
  show _ = k (proveAbsence a0 a1).1 (proveAbsence a0 a1).2
  unfold proveAbsence
  cases areEntries a0 with
  | false => rfl
  | true =>
    cases isLabel a1 with
    | false => rfl
    | true =>
      cases decide (findEntry a0 a1 ≥ 0) with
      | true => rfl
      | false =>
        obtain ⟨m, hm, hle⟩ := rankOf_nat (l := a0) a1 (Nat.le_trans (wEs_ge a0) hw)
        have hl := wEs_ge a0
        simp only [Bool.not_true, cond_false, hm, gapOf]
        have e2 : decide ((m : Int) < (a0.length : Int)) = decide (m < a0.length) := lt_nat m a0.length
        cases m with
        | zero =>
          cases hb : decide (0 < a0.length) with
          | false => simp [e2, hb, zeroE, zeroP]
          | true =>
            have e0 : inRange (0 : Int) a0.length = true := by rw [show (0 : Int) = ((0 : Nat) : Int) from rfl, inRange_nat]; exact hb
            simp [e2, hb, zeroE, zeroP, e0]
        | succ m =>
          have e3 : IntKind.wrap .i64 (((m + 1 : Nat) : Int) - 1) = (m : Int) := by rw [wrap_id (by omega) (by omega)]; omega
          have e4 : decide (((m + 1 : Nat) : Int) > 0) = true := decide_eq_true (by omega)
          have e5 : decide (m < a0.length) = true := decide_eq_true (by omega)
          cases hb : decide (m + 1 < a0.length) with
          | false => simp only [e2, hb, e3, e4, e5, inRange_nat, cond_true, cond_false, zeroE, zeroP]
          | true => simp only [e2, hb, e3, e4, e5, inRange_nat, cond_true, cond_false, zeroE, zeroP]
def OP_impl_ProveAbsence (f0 : (List TEntry) → Bool) (g0 : (List TEntry) → Bool) (f1 : ByteArray → Bool) (g1 : ByteArray → Bool) (f2 : (List TEntry) → ByteArray → Int) (f3 : (List TEntry) → ByteArray → Int) (f4 : TEntry → TEntry) (g4 : TEntry → Bool) (f5 : (List TEntry) → ByteArray → (TProof × Bool)) (g5 : (List TEntry) → ByteArray → Bool) : Orac := (orcX 33 [.val (.slice 29 TyEntry), .val .str] (fun d => g5 d.1 d.2.1) (fun d => [⟨(.pair (.int .i64) (.slice 3 (.int .i64))), (f5 d.1 d.2.1).1⟩, ⟨.bool, (f5 d.1 d.2.1).2⟩]) (orcX 32 [.val TyEntry] (fun d => g4 d.1) (fun d => [⟨TyEntry, f4 d.1⟩]) (orcX 12 [.val (.slice 29 TyEntry), .val .str] (fun d => true) (fun d => [⟨(.int .i64), f3 d.1 d.2.1⟩]) (orcX 31 [.val (.slice 29 TyEntry), .val .str] (fun d => true) (fun d => [⟨(.int .i64), f2 d.1 d.2.1⟩]) (orcX 30 [.val .str] (fun d => g1 d.1) (fun d => [⟨.bool, f1 d.1⟩]) (orcX 29 [.val (.slice 29 TyEntry)] (fun d => g0 d.1) (fun d => [⟨.bool, f0 d.1⟩]) nilO))))))
def O_impl_ProveAbsence : Orac := OP_impl_ProveAbsence N.impl_AreEntries G.impl_AreEntries N.impl_IsLabel G.impl_IsLabel N.impl_FindEntry N.impl_RankOf N.impl_copyEntry G.impl_copyEntry N.impl_ProveEntry G.impl_ProveEntry
theorem ok_impl_ProveAbsence : OracOk Tryz.prog sigs O_impl_ProveAbsence := (orcX_ok rfl rfl (fun d g => said_impl_ProveEntry d.1 d.2.1 g) (orcX_ok rfl rfl (fun d g => said_impl_copyEntry d.1 g) (orcX_ok rfl rfl (fun d g => said_impl_RankOf d.1 d.2.1) (orcX_ok rfl rfl (fun d g => said_impl_FindEntry d.1 d.2.1) (orcX_ok rfl rfl (fun d g => said_impl_IsLabel d.1 g) (orcX_ok rfl rfl (fun d g => said_impl_AreEntries d.1 g) nilO_ok))))))
def A_impl_ProveAbsence : Ann := fun b => ⟨[], []⟩
theorem aP_impl_ProveAbsence (f0 : (List TEntry) → Bool) (g0 : (List TEntry) → Bool) (f1 : ByteArray → Bool) (g1 : ByteArray → Bool) (f2 : (List TEntry) → ByteArray → Int) (f3 : (List TEntry) → ByteArray → Int) (f4 : TEntry → TEntry) (g4 : TEntry → Bool) (f5 : (List TEntry) → ByteArray → (TProof × Bool)) (g5 : (List TEntry) → ByteArray → Bool) (n : Nat) (a0 : (List TEntry)) (a1 : ByteArray) : absF tab sigs (OP_impl_ProveAbsence f0 g0 f1 g1 f2 f3 f4 g4 f5 g5) A_impl_ProveAbsence Tryz.f7 [((.pair (.int .i64) (.pair TyEntry (.pair TyEntry (.pair (.pair (.int .i64) (.slice 3 (.int .i64))) (.pair (.int .i64) (.slice 3 (.int .i64))))))), (.pair .no (.pair (.pair .no (.pair .no (.pair .no (.own 0)))) (.pair (.pair .no (.pair .no (.pair .no (.own 1)))) (.pair (.pair .no (.own 2)) (.pair .no (.own 3))))))), (.bool, .no)] n [.val (.slice 29 TyEntry) a0, .val .str a1] = impl_ProveAbsence_P f0 g0 f1 g1 f2 f3 f4 g4 f5 g5 (fun r0 r1 => some [⟨(.pair (.int .i64) (.pair TyEntry (.pair TyEntry (.pair (.pair (.int .i64) (.slice 3 (.int .i64))) (.pair (.int .i64) (.slice 3 (.int .i64))))))), r0⟩, ⟨.bool, r1⟩])  a0 a1 := by kernel_rfl
theorem said_impl_ProveAbsence (a0 : (List TEntry)) (a1 : ByteArray) (g : G.impl_ProveAbsence a0 a1 = true) : Said Tryz.prog sigs_7 7 [.val (.slice 29 TyEntry) a0, .val .str a1] [⟨(.pair (.int .i64) (.pair TyEntry (.pair TyEntry (.pair (.pair (.int .i64) (.slice 3 (.int .i64))) (.pair (.int .i64) (.slice 3 (.int .i64))))))), (N.impl_ProveAbsence a0 a1).1⟩, ⟨.bool, (N.impl_ProveAbsence a0 a1).2⟩] := said_len (T := tab) (A := A_impl_ProveAbsence) tabOk ok_impl_ProveAbsence tabOk.follows Tryz.func7 (by kernel_rfl) (by kernel_rfl) (fun hl => ⟨0, (aP_impl_ProveAbsence N.impl_AreEntries G.impl_AreEntries N.impl_IsLabel G.impl_IsLabel N.impl_FindEntry N.impl_RankOf N.impl_copyEntry G.impl_copyEntry N.impl_ProveEntry G.impl_ProveEntry 0 a0 a1).trans (impl_ProveAbsence_ok (ρ := Ret) (fun r0 r1 => some [⟨(.pair (.int .i64) (.pair TyEntry (.pair TyEntry (.pair (.pair (.int .i64) (.slice 3 (.int .i64))) (.pair (.int .i64) (.slice 3 (.int .i64))))))), r0⟩, ⟨.bool, r1⟩]) a0 a1 hl.1 g)⟩)
abbrev N.spec_FindEntry (l : List TEntry) (s : ByteArray) : Int := findEntry l s
def spec_FindEntry_L0 {ρ : Type} (k : Int → Option ρ) (L0 : (List TEntry) → ByteArray → Int → Option ρ) (v0_0 : (List TEntry)) (v0_1 : ByteArray) (v0_2 : Int) : Option ρ := (cond (decide (v0_2 < (List.length v0_0 : Int))) (cond (inRange v0_2 (List.length v0_0)) (cond ((ByteArray.toList (List.getD v0_0 (Int.toNat v0_2) (ByteArray.empty, ((0 : Int), ((0 : Int), [])))).1) == (ByteArray.toList v0_1)) (k v0_2) (L0 v0_0 v0_1 (IntKind.wrap .i64 (v0_2 + (1 : Int))))) none) (k (-1 : Int)))
def spec_FindEntry {ρ : Type} (k : Int → Option ρ) (L0 : (List TEntry) → ByteArray → Int → Option ρ) (a0 : (List TEntry)) (a1 : ByteArray) : Option ρ := (L0 a0 a1 (0 : Int))
theorem spec_FindEntry_ok {ρ : Type} (k : Int → Option ρ) (a0 : (List TEntry)) (a1 : ByteArray) (l_a0 : lnL (fun y => (True ∧ (True ∧ (True ∧ lnL (fun _ => True) y.2.2.2)))) a0) : ∃ n0, ∀ n, n0 ≤ n → ∀ (L0 : Nat → (List TEntry) → ByteArray → Int → Option ρ) (h0 : ∀ ( m : Nat) (v0_0 : (List TEntry)) (v0_1 : ByteArray) (v0_2 : Int), L0 (m + 1) v0_0 v0_1 v0_2 = spec_FindEntry_L0 k (L0 m) v0_0 v0_1 v0_2), spec_FindEntry k (L0 n) a0 a1 = k (N.spec_FindEntry a0 a1) := by
  refine ⟨a0.length + 1, fun n hn L0 h0 => ?_⟩
  refine raw_idx (a := a0) (ByteArray.empty, (0, (0, []))) (fun e => eqStr e.1 a1) (k := k) (σ := Unit) (s := ()) (L := fun m i _ => L0 m a0 a1 i) (R := fun i s c => spec_FindEntry_L0 k (fun _ _ i => c i ()) a0 a1 i) (fun m i s => h0 m a0 a1 i) (fun j s c hj => ?_) (fun s c => ?_) hn
  · have : j < big := by have := l_a0.1; omega
    simp [spec_FindEntry_L0, lt_nat, inRange_nat, hj, wrap_succ this, eqStr]
  · simp [spec_FindEntry_L0]
def O_spec_FindEntry : Orac := nilO
theorem ok_spec_FindEntry : OracOk Tryz.prog sigs O_spec_FindEntry := nilO_ok
def A_spec_FindEntry : Ann := fun b => cond (Nat.beq b 0) ⟨[(0, false), (1, false), (5, false)], []⟩ (⟨[], []⟩)
def S_spec_FindEntry_0 (v0_0 : (List TEntry)) (v0_1 : ByteArray) (v0_2 : Int) : St := [(kT 0, some (.tv (.v (.slice 29 TyEntry) v0_0 .no))), (kT 1, some (.tv (.v .str v0_1 .no))), (kT 5, some (.tv (.v (.int .i64) v0_2 .no)))]
noncomputable def L_spec_FindEntry_0 (n m : Nat) : St → Option Ret := loopOf tab sigs O_spec_FindEntry A_spec_FindEntry Tryz.f36 [((.int .i64), .no)] n (fun _ => 0) 0 m
theorem b_spec_FindEntry_0 (n m : Nat) (v0_0 : (List TEntry)) (v0_1 : ByteArray) (v0_2 : Int) : L_spec_FindEntry_0 n (m + 1) (S_spec_FindEntry_0 v0_0 v0_1 v0_2) = spec_FindEntry_L0 (fun r0 => some [⟨(.int .i64), r0⟩]) (fun v0_0 v0_1 v0_2 => L_spec_FindEntry_0 n m (S_spec_FindEntry_0 v0_0 v0_1 v0_2)) v0_0 v0_1 v0_2 := by kernel_rfl
theorem a_spec_FindEntry (n : Nat) (a0 : (List TEntry)) (a1 : ByteArray) : absF tab sigs O_spec_FindEntry A_spec_FindEntry Tryz.f36 [((.int .i64), .no)] n [.val (.slice 29 TyEntry) a0, .val .str a1] = spec_FindEntry (fun r0 => some [⟨(.int .i64), r0⟩]) (fun v0_0 v0_1 v0_2 => L_spec_FindEntry_0 n n (S_spec_FindEntry_0 v0_0 v0_1 v0_2)) a0 a1 := by kernel_rfl
theorem said_spec_FindEntry (a0 : (List TEntry)) (a1 : ByteArray) : Said Tryz.prog sigs_36 36 [.val (.slice 29 TyEntry) a0, .val .str a1] [⟨(.int .i64), N.spec_FindEntry a0 a1⟩] := said_len (T := tab) (A := A_spec_FindEntry) tabOk ok_spec_FindEntry tabOk.follows Tryz.func36 (by kernel_rfl) (by kernel_rfl) (fun hl => let ⟨n, hn⟩ := spec_FindEntry_ok (ρ := Ret) (fun r0 => some [⟨(.int .i64), r0⟩]) a0 a1 hl.1; ⟨n, (a_spec_FindEntry n a0 a1).trans (hn n (Nat.le_refl n) (fun  m v0_0 v0_1 v0_2 => L_spec_FindEntry_0 n  m (S_spec_FindEntry_0 v0_0 v0_1 v0_2)) (fun  m v0_0 v0_1 v0_2 => b_spec_FindEntry_0 n  m v0_0 v0_1 v0_2))⟩)
abbrev N.spec_RankOf (l : List TEntry) (s : ByteArray) : Int := rankOf l s
def spec_RankOf_P_L0 {ρ : Type} (f0 : ByteArray → ByteArray → Int) (k : Int → Option ρ) (L0 : (List TEntry) → ByteArray → Int → Int → Option ρ) (v0_0 : (List TEntry)) (v0_1 : ByteArray) (v0_2 : Int) (v0_3 : Int) : Option ρ := (cond (decide (v0_3 < (List.length v0_0 : Int))) (cond (inRange v0_3 (List.length v0_0)) (cond (decide ((f0 (List.getD v0_0 (Int.toNat v0_3) (ByteArray.empty, ((0 : Int), ((0 : Int), [])))).1 v0_1) < (0 : Int))) (L0 v0_0 v0_1 (IntKind.wrap .i64 (v0_2 + (1 : Int))) (IntKind.wrap .i64 (v0_3 + (1 : Int)))) (L0 v0_0 v0_1 v0_2 (IntKind.wrap .i64 (v0_3 + (1 : Int))))) none) (k v0_2))
def spec_RankOf_P {ρ : Type} (f0 : ByteArray → ByteArray → Int) (k : Int → Option ρ) (L0 : (List TEntry) → ByteArray → Int → Int → Option ρ) (a0 : (List TEntry)) (a1 : ByteArray) : Option ρ := (L0 a0 a1 (0 : Int) (0 : Int))
def spec_RankOf_L0 {ρ : Type} (k : Int → Option ρ) (L0 : (List TEntry) → ByteArray → Int → Int → Option ρ) (v0_0 : (List TEntry)) (v0_1 : ByteArray) (v0_2 : Int) (v0_3 : Int) : Option ρ := spec_RankOf_P_L0 N.spec_CompareLabels k L0 v0_0 v0_1 v0_2 v0_3
def spec_RankOf {ρ : Type} (k : Int → Option ρ) (L0 : (List TEntry) → ByteArray → Int → Int → Option ρ) (a0 : (List TEntry)) (a1 : ByteArray) : Option ρ := spec_RankOf_P N.spec_CompareLabels k L0 a0 a1
theorem spec_RankOf_ok {ρ : Type} (k : Int → Option ρ) (a0 : (List TEntry)) (a1 : ByteArray) (l_a0 : lnL (fun y => (True ∧ (True ∧ (True ∧ lnL (fun _ => True) y.2.2.2)))) a0) : ∃ n0, ∀ n, n0 ≤ n → ∀ (L0 : Nat → (List TEntry) → ByteArray → Int → Int → Option ρ) (h0 : ∀ ( m : Nat) (v0_0 : (List TEntry)) (v0_1 : ByteArray) (v0_2 : Int) (v0_3 : Int), L0 (m + 1) v0_0 v0_1 v0_2 v0_3 = spec_RankOf_L0 k (L0 m) v0_0 v0_1 v0_2 v0_3), spec_RankOf k (L0 n) a0 a1 = k (N.spec_RankOf a0 a1) := by
  refine ⟨a0.length + 1, fun n hn L0 h0 => ?_⟩
  refine raw_foldl (a := a0) (ByteArray.empty, (0, (0, []))) (fun n e => cond (decide (cmpStr e.1 a1 < 0)) (IntKind.wrap .i64 (n + 1)) n) (k := k) (s := 0) (L := fun m i s => L0 m a0 a1 s i) (R := fun i s c => spec_RankOf_L0 k (fun _ _ s i => c i s) a0 a1 s i) (fun m i s => h0 m a0 a1 s i) (fun _ _ => True) (fun j s c hj _ => ?_) (fun _ _ _ _ => trivial) (fun s c => ?_) hn trivial
  · have : j < big := by have := l_a0.1; omega
    simp only [spec_RankOf_L0, spec_RankOf_P_L0, lt_nat, inRange_nat, decide_eq_true hj, cond_true, Int.toNat_natCast, wrap_succ this, N.spec_CompareLabels]
    cases decide (cmpStr (a0.getD j (ByteArray.empty, (0, (0, [])))).1 a1 < 0) <;> rfl
  · simp [spec_RankOf_L0, spec_RankOf_P_L0]
def OP_spec_RankOf (f0 : ByteArray → ByteArray → Int) : Orac := (orcX 57 [.val .str, .val .str] (fun d => true) (fun d => [⟨(.int .i64), f0 d.1 d.2.1⟩]) nilO)
def O_spec_RankOf : Orac := OP_spec_RankOf N.spec_CompareLabels
theorem ok_spec_RankOf : OracOk Tryz.prog sigs O_spec_RankOf := (orcX_ok rfl rfl (fun d g => said_spec_CompareLabels d.1 d.2.1) nilO_ok)
def A_spec_RankOf : Ann := fun b => cond (Nat.beq b 0) ⟨[(0, false), (1, false), (5, false), (6, false)], []⟩ (⟨[], []⟩)
def S_spec_RankOf_0 (v0_0 : (List TEntry)) (v0_1 : ByteArray) (v0_2 : Int) (v0_3 : Int) : St := [(kT 0, some (.tv (.v (.slice 29 TyEntry) v0_0 .no))), (kT 1, some (.tv (.v .str v0_1 .no))), (kT 5, some (.tv (.v (.int .i64) v0_2 .no))), (kT 6, some (.tv (.v (.int .i64) v0_3 .no)))]
noncomputable def L_P_spec_RankOf_0 (f0 : ByteArray → ByteArray → Int) (n m : Nat) : St → Option Ret := loopOf tab sigs (OP_spec_RankOf f0) A_spec_RankOf Tryz.f37 [((.int .i64), .no)] n (fun _ => 0) 0 m
theorem bP_spec_RankOf_0 (f0 : ByteArray → ByteArray → Int) (n m : Nat) (v0_0 : (List TEntry)) (v0_1 : ByteArray) (v0_2 : Int) (v0_3 : Int) : L_P_spec_RankOf_0 f0 n (m + 1) (S_spec_RankOf_0 v0_0 v0_1 v0_2 v0_3) = spec_RankOf_P_L0 f0 (fun r0 => some [⟨(.int .i64), r0⟩]) (fun v0_0 v0_1 v0_2 v0_3 => L_P_spec_RankOf_0 f0 n m (S_spec_RankOf_0 v0_0 v0_1 v0_2 v0_3)) v0_0 v0_1 v0_2 v0_3 := by kernel_rfl
theorem aP_spec_RankOf (f0 : ByteArray → ByteArray → Int) (n : Nat) (a0 : (List TEntry)) (a1 : ByteArray) : absF tab sigs (OP_spec_RankOf f0) A_spec_RankOf Tryz.f37 [((.int .i64), .no)] n [.val (.slice 29 TyEntry) a0, .val .str a1] = spec_RankOf_P f0 (fun r0 => some [⟨(.int .i64), r0⟩]) (fun v0_0 v0_1 v0_2 v0_3 => L_P_spec_RankOf_0 f0 n n (S_spec_RankOf_0 v0_0 v0_1 v0_2 v0_3)) a0 a1 := by kernel_rfl
theorem said_spec_RankOf (a0 : (List TEntry)) (a1 : ByteArray) : Said Tryz.prog sigs_37 37 [.val (.slice 29 TyEntry) a0, .val .str a1] [⟨(.int .i64), N.spec_RankOf a0 a1⟩] := said_len (T := tab) (A := A_spec_RankOf) tabOk ok_spec_RankOf tabOk.follows Tryz.func37 (by kernel_rfl) (by kernel_rfl) (fun hl => let ⟨n, hn⟩ := spec_RankOf_ok (ρ := Ret) (fun r0 => some [⟨(.int .i64), r0⟩]) a0 a1 hl.1; ⟨n, (aP_spec_RankOf N.spec_CompareLabels n a0 a1).trans (hn n (Nat.le_refl n) (fun  m v0_0 v0_1 v0_2 v0_3 => L_P_spec_RankOf_0 N.spec_CompareLabels n  m (S_spec_RankOf_0 v0_0 v0_1 v0_2 v0_3)) (fun  m v0_0 v0_1 v0_2 v0_3 => bP_spec_RankOf_0 N.spec_CompareLabels n  m v0_0 v0_1 v0_2 v0_3))⟩)
end Go.Proofs.YthgbcbnmdioknaaGreat.Ref
